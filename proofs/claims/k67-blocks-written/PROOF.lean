import PyProof.Rows.All
import Wide.All
import OpenK.AllK
import Wide.FinOn
import HandS.ForMost
import HandS.Exc
import HandS.WordsExc
import HandS.ExcOwn
import HandS.CallSlots
import HandS.HeadHook1
import HandS.Wide
import HandS.WideBits
import HandS.IsInst
import HandS.Text
import HandS.WordsDict
import HandS.Defaults
import HandS.Zip
import KE.GoesNew
import HandS.Small
import KE.KExcIs
import HandS.ExcInit
import HandS.TryMany
import HandS.ExcField
import HandS.ExcValue
import HandS.SortRule
import HandS.Strs
import HandS.SetTxt0
import HandS.RevRange
import HandS.Style
import HandS.TupAny
import HandS.ReplaceLit
import HandS.ReplaceDef
import KE.DataMinMax
import KE.SortData
import PyProof.Rows.CallKwBuiltin
import HandS.Codes
import HandS.More
import HandS.Replace
import HandS.ReplaceList
import PyProof.ToksMono
import HandS.HeadHook2
import HandS.Head0
import HandS.Head1
import HandS.Head2
import HandS.HeadEnd
import PySem.Challenge.RW_gapweave_k67_blocks_written
set_option Elab.async false
set_option linter.all false
set_option maxRecDepth 100000
set_option maxHeartbeats 4000000
set_option autoImplicit false
/-! Plain data over the hand layer: what a body gives is a plain function of plain data. -/
namespace GW
open PySem L2

/-- plain data -/
inductive D where
  | non | bl (b : Bool) | int (i : Int) | str (x : Str)
  | tup (ds : List D) | lst (ds : List D) | dct (kvs : List (Key × D)) | obj (C : Addr) (fs : List (Str × D))
  | err (c : Nat) (fs : List (Str × Int))

abbrev AS := Addr → Prop
/-- the program's own errors, by number -/
def exN : Nat → Str
  | 0 => "WeaveError"
  | 1 => "NoPrices"
  | 2 => "NoLaying"
  | 3 => "NoManner"
  | 4 => "NoPlace"
  | 5 => "NoBlock"
  | 6 => "NoRow"
  | 7 => "NoTree"
  | 8 => "NoMost"
  | 9 => "NoSign"
  | 10 => "NoNote"
  | _ => "NoText"
def ec (K : PySem.W.Frag) (c : Nat) : Addr := He.ga K (exN c)
/-- an error that was raised once -/
def ErO (C : Addr) (d : Option Addr) (a : Addr) : HO := .ext fun h => ∃ (oe : Obj) (vs : Array Value), h.get? a = some oe ∧ Zc (.ref C) d oe ∧ oe.data = .fields vs
/-- its fields -/
def ErD (F : Hp) (od : Option Addr) (fs : List (Str × Int)) : Prop := (fs = [] ∧ od = none) ∨ ∃ d, od = some d ∧ F d = some (.xd (fs.map fun p => (p.1, V.int p.2)))
theorem ErD.mono {F F' : Hp} {od : Option Addr} {fs : List (Str × Int)} (h : ErD F od fs) (s : Same F F') : ErD F' od fs := by
  rcases h with h | ⟨d, h1, h2⟩
  · exact .inl h
  · exact .inr ⟨d, h1, s _ _ h2⟩
abbrev DS := List (Option D)

/-- what may be written -/
def Mk : HO → Bool
  | .lst _ => true
  | .dK _ => true
  | .ins _ _ _ => true
  | _ => false

/-- v stands for d; to the depth k the lists, dicts, instances are one's own (at A, in H), below that they stand in F -/
inductive Rp (K : PySem.W.Frag) (F H : Hp) : Nat → V → D → AS → Prop
  | non {k : Nat} {A : AS} : Rp K F H k .non .non A
  | bl {k : Nat} {A : AS} {b : Bool} : Rp K F H k (.bl b) (.bl b) A
  | int {k : Nat} {A : AS} {i : Int} : Rp K F H k (.int i) (.int i) A
  | str {k : Nat} {A : AS} {x : Str} : Rp K F H k (.str x) (.str x) A
  | tup {k : Nat} {A : AS} {p : Addr} {vs : List V} {ds : List D} (h : SqT K H p vs) (l : vs.length = ds.length) (c : ∀ (i : Nat) v d, vs[i]? = some v → ds[i]? = some d → Rp K F H 0 v d A) : Rp K F H k (.ref p) (.tup ds) A
  | lst {A : AS} {p : Addr} {vs : List V} {ds : List D} (h : SqL K F p vs) (l : vs.length = ds.length) (c : ∀ (i : Nat) v d, vs[i]? = some v → ds[i]? = some d → Rp K F H 0 v d A) : Rp K F H 0 (.ref p) (.lst ds) A
  | lstO {k : Nat} {A : AS} {p : Addr} {vs : List V} {ds : List D} (As : Nat → AS) (h : H p = some (.lst vs)) (hA : A p) (l : vs.length = ds.length) (c : ∀ (i : Nat) v d, vs[i]? = some v → ds[i]? = some d → Rp K F H k v d (As i))
      (s : ∀ (i : Nat) a, As i a → A a ∧ a ≠ p) (dj : ∀ (i j : Nat) a, As i a → As j a → i = j) : Rp K F H (k + 1) (.ref p) (.lst ds) A
  | dct {A : AS} {p : Addr} {kvs : List (Key × V)} {kds : List (Key × D)} (h : F p = some (.dK kvs)) (l : kvs.map (·.1) = kds.map (·.1)) (c : ∀ (i : Nat) v d, (kvs.map (·.2))[i]? = some v → (kds.map (·.2))[i]? = some d → Rp K F H 0 v d A) : Rp K F H 0 (.ref p) (.dct kds) A
  | dctO {k : Nat} {A : AS} {p : Addr} {kvs : List (Key × V)} {kds : List (Key × D)} (h : H p = some (.dK kvs)) (hA : A p) (l : kvs.map (·.1) = kds.map (·.1)) (c : ∀ (i : Nat) v d, (kvs.map (·.2))[i]? = some v → (kds.map (·.2))[i]? = some d → Rp K F H 0 v d A) : Rp K F H (k + 1) (.ref p) (.dct kds) A
  | obj {A : AS} {p C dx : Addr} {fs : List (Str × V)} {fds : List (Str × D)} (h : F p = some (.ins C dx fs)) (l : fs.map (·.1) = fds.map (·.1)) (c : ∀ (i : Nat) v d, (fs.map (·.2))[i]? = some v → (fds.map (·.2))[i]? = some d → Rp K F H 0 v d A) : Rp K F H 0 (.ref p) (.obj C fds) A
  | objO {k : Nat} {A : AS} {p C dx : Addr} {fs : List (Str × V)} {fds : List (Str × D)} (As : Nat → AS) (h : H p = some (.ins C dx fs)) (hA : A p) (l : fs.map (·.1) = fds.map (·.1)) (c : ∀ (i : Nat) v d, (fs.map (·.2))[i]? = some v → (fds.map (·.2))[i]? = some d → Rp K F H k v d (As i))
      (s : ∀ (i : Nat) a, As i a → A a ∧ a ≠ p) (dj : ∀ (i j : Nat) a, As i a → As j a → i = j) : Rp K F H (k + 1) (.ref p) (.obj C fds) A
  | err {k : Nat} {A : AS} {p : Addr} {c : Nat} {od : Option Addr} {fs : List (Str × Int)} (h : F p = some (ErO (ec K c) od p)) (x : ErD F od fs) : Rp K F H k (.ref p) (.err c fs) A

theorem sqL_mono {K : PySem.W.Frag} {F G : Hp} {p : Addr} {vs : List V} (h : SqL K F p vs) (e : Same F G) : SqL K G p vs := e.seq h
theorem sqT_mono {K : PySem.W.Frag} {H H' : Hp} {p : Addr} {vs : List V} (h : SqT K H p vs) (e : ∀ a o, H a = some o → Mk o = false → H' a = some o) : SqT K H' p vs := by
  rcases h with (h | ⟨o, h⟩) | h
  · exact .inl (.inl (e _ _ h rfl))
  · exact .inl (.inr ⟨o, e _ _ h rfl⟩)
  · exact .inr h

section
variable {K : PySem.W.Frag} {F F' H H' : Hp} {k : Nat} {v : V} {d : D} {A A' : AS}
/-- kept, where what is one's own stands and the rest has grown -/
theorem Rp.mono (r : Rp K F H k v d A) (hF : Same F F') (hT : ∀ a o, H a = some o → Mk o = false → H' a = some o) (hA : ∀ a o, A a → H a = some o → H' a = some o) : Rp K F' H' k v d A := by
  induction r with
  | non => exact .non
  | bl => exact .bl
  | int => exact .int
  | str => exact .str
  | tup h l c ih => exact .tup (sqT_mono h hT) l fun i v d a b => ih i v d a b hA
  | lst h l c ih => exact .lst (sqL_mono h hF) l fun i v d a b => ih i v d a b hA
  | lstO As h hp l c s dj ih => exact .lstO As (hA _ _ hp h) hp l (fun i v d a b => ih i v d a b fun x o hx => hA x o (s i x hx).1) s dj
  | dct h l c ih => exact .dct (hF _ _ h) l fun i v d a b => ih i v d a b hA
  | dctO h hp l c ih => exact .dctO (hA _ _ hp h) hp l fun i v d a b => ih i v d a b hA
  | obj h l c ih => exact .obj (hF _ _ h) l fun i v d a b => ih i v d a b hA
  | objO As h hp l c s dj ih => exact .objO As (hA _ _ hp h) hp l (fun i v d a b => ih i v d a b fun x o hx => hA x o (s i x hx).1) s dj
  | err h x => exact .err (hF _ _ h) (x.mono hF)
/-- nothing is one's own at depth nought: any A -/
theorem Rp.zero (r : Rp K F H k v d A) (hk : k = 0) (A' : AS) : Rp K F H 0 v d A' := by
  induction r with
  | non => exact .non
  | bl => exact .bl
  | int => exact .int
  | str => exact .str
  | tup h l c ih => exact .tup h l fun i v d a b => ih i v d a b rfl
  | lst h l c ih => exact .lst h l fun i v d a b => ih i v d a b rfl
  | lstO => cases hk
  | dct h l c ih => exact .dct h l fun i v d a b => ih i v d a b rfl
  | dctO => cases hk
  | obj h l c ih => exact .obj h l fun i v d a b => ih i v d a b rfl
  | objO => cases hk
  | err h x => exact .err h x
theorem Rp.z (r : Rp K F H 0 v d A) {A' : AS} : Rp K F H 0 v d A' := r.zero rfl A'
theorem Rp.sup (r : Rp K F H k v d A) (h : ∀ a, A a → A' a) : Rp K F H k v d A' := by
  induction r generalizing A' with
  | non => exact .non
  | bl => exact .bl
  | int => exact .int
  | str => exact .str
  | tup hh l c ih => exact .tup hh l fun i v d a b => (c i v d a b).z
  | lst hh l c ih => exact .lst hh l fun i v d a b => (c i v d a b).z
  | lstO As hh hp l c s dj ih => exact .lstO As hh (h _ hp) l c (fun i a x => ⟨h _ (s i a x).1, (s i a x).2⟩) dj
  | dct hh l c ih => exact .dct hh l fun i v d a b => (c i v d a b).z
  | dctO hh hp l c ih => exact .dctO hh (h _ hp) l fun i v d a b => (c i v d a b).z
  | obj hh l c ih => exact .obj hh l fun i v d a b => (c i v d a b).z
  | objO As hh hp l c s dj ih => exact .objO As hh (h _ hp) l c (fun i a x => ⟨h _ (s i a x).1, (s i a x).2⟩) dj
  | err hh x => exact .err hh x
/-- all of it kept in G: read as what stands there -/
theorem Rp.frz (r : Rp K F H k v d A) {G : Hp} (hF : Same F G) (hA : ∀ a o, A a → H a = some o → G a = some o) {A' : AS} : Rp K G H 0 v d A' := by
  induction r generalizing A' with
  | non => exact .non
  | bl => exact .bl
  | int => exact .int
  | str => exact .str
  | tup h l c ih => exact .tup h l fun i v d a b => ih i v d a b hA
  | lst h l c ih => exact .lst (sqL_mono h hF) l fun i v d a b => ih i v d a b hA
  | lstO As h hp l c s dj ih => exact .lst (.inl (.inl (hA _ _ hp h))) l fun i v d a b => ih i v d a b fun x o hx => hA x o (s i x hx).1
  | dct h l c ih => exact .dct (hF _ _ h) l fun i v d a b => ih i v d a b hA
  | dctO h hp l c ih => exact .dct (hA _ _ hp h) l fun i v d a b => ih i v d a b hA
  | obj h l c ih => exact .obj (hF _ _ h) l fun i v d a b => ih i v d a b hA
  | objO As h hp l c s dj ih => exact .obj (hA _ _ hp h) l fun i v d a b => ih i v d a b fun x o hx => hA x o (s i x hx).1
  | err h x => exact .err (hF _ _ h) (x.mono hF)
end

/-! ### scalars, flat data -/
def scV : D → Option V
  | .non => some .non
  | .bl b => some (.bl b)
  | .int i => some (.int i)
  | .str x => some (.str x)
  | _ => none
mutual
def flat : D → Bool
  | .non => true
  | .bl _ => true
  | .int _ => true
  | .str _ => true
  | .tup ds => flats ds
  | _ => false
def flats : List D → Bool
  | [] => true
  | d :: ds => flat d && flats ds
end
theorem flats_get : ∀ {ds : List D} {i : Nat} {d : D}, flats ds = true → ds[i]? = some d → flat d = true
  | _ :: _, 0, _, h, e => by
    simp only [flats, Bool.and_eq_true] at h
    simp only [List.getElem?_cons_zero, Option.some.injEq] at e
    subst e; exact h.1
  | _ :: r, i + 1, _, h, e => by
    simp only [flats, Bool.and_eq_true] at h
    exact flats_get (i := i) h.2 (by simpa using e)
theorem Rp.flat_any {K : PySem.W.Frag} {F H : Hp} {k : Nat} {v : V} {d : D} {A : AS} (r : Rp K F H k v d A) (h : flat d = true) (F' : Hp) (k' : Nat) (A' : AS) : Rp K F' H k' v d A' := by
  induction r generalizing k' A' with
  | non => exact .non
  | bl => exact .bl
  | int => exact .int
  | str => exact .str
  | tup hh l c ih =>
    simp only [flat] at h
    exact .tup hh l fun i v d a b => ih i v d a b (flats_get h b) 0 A'
  | lst => cases h
  | lstO => cases h
  | dct => cases h
  | dctO => cases h
  | obj => cases h
  | objO => cases h
  | err => cases h
theorem Rp.of_sc {K : PySem.W.Frag} {F H : Hp} {k : Nat} {v : V} {d : D} {A : AS} (h : scV d = some v) : Rp K F H k v d A := by
  cases d <;> simp [scV] at h <;> subst h <;> constructor
theorem Rp.sc {K : PySem.W.Frag} {F H : Hp} {k : Nat} {v w : V} {d : D} {A : AS} (r : Rp K F H k v d A) (h : scV d = some w) : v = w := by
  cases r <;> simp [scV] at h <;> exact h
section
variable {K : PySem.W.Frag} {F H : Hp} {k : Nat} {v : V} {A : AS}
theorem Rp.int_ {i : Int} (r : Rp K F H k v (.int i) A) : v = .int i := r.sc rfl
theorem Rp.bl_ {b : Bool} (r : Rp K F H k v (.bl b) A) : v = .bl b := r.sc rfl
theorem Rp.str_ {x : Str} (r : Rp K F H k v (.str x) A) : v = .str x := r.sc rfl
theorem Rp.non_ (r : Rp K F H k v .non A) : v = .non := r.sc rfl
end

/-! ### the state -/
structure Ctx where
  K : PySem.W.Frag
  /-- the counting cell, where the def is handed one -/
  q : Option Addr
  /-- how deep a slot's thing is one's own -/
  T : Nat → Nat
  /-- slots whose value stays -/
  pn : Nat → Option V

structure Sim (C : Ctx) (F : Hp) (B : AS) (σ : L2.St) (H : Hp) (n : Int) (ds : DS) : Prop where
  fh : Same F H
  bok : ∀ a, B a → F a = none ∧ ∃ o, H a = some o ∧ Mk o = true
  cell : ∀ q, C.q = some q → B q ∧ H q = some (.lst [.int n])
  pin : ∀ i v, C.pn i = some v → σ[i]? = some (some v)
  len : σ.length = ds.length
  rep : ∃ A : Nat → AS, (∀ (i : Nat) d, ds[i]? = some (some d) → ∃ v, σ[i]? = some (some v) ∧ Rp C.K F H (C.T i) v d (A i)) ∧ (∀ i a, A i a → B a ∧ C.q ≠ some a) ∧ (∀ i j a, A i a → A j a → i = j)

/-- what the reckoning of an expression does to the heap -/
structure GoE (q : Option Addr) (F H F' H' : Hp) : Prop where
  ff : Same F F'
  fh : Same F' H'
  hh : ∀ a o, H a = some o → q ≠ some a → H' a = some o
  ht : ∀ a o, H a = some o → Mk o = false → H' a = some o
  nf : ∀ a o, F a = none → H a = some o → F' a = none
theorem none_some {α β : Type} {f : α → Option β} {g : α → Option β} (dm : ∀ a o, f a = some o → ∃ o', g a = some o') {a : α} (h : g a = none) : f a = none := by
  cases e : f a with
  | none => rfl
  | some o => obtain ⟨o', e'⟩ := dm a o e; rw [h] at e'; cases e'
section
variable {q : Option Addr} {F H F1 H1 F2 H2 : Hp}
theorem GoE.refl (h : Same F H) : GoE q F H F H := ⟨Same.refl _, h, fun _ _ e _ => e, fun _ _ e _ => e, fun _ _ e _ => e⟩
/-- the cell stands as a list all along -/
structure GoC (q : Option Addr) (F H F' H' : Hp) : Prop where
  go : GoE q F H F' H'
  dm : ∀ a o, H a = some o → ∃ o', H' a = some o'
theorem GoC.refl (h : Same F H) : GoC q F H F H := ⟨GoE.refl h, fun _ o e => ⟨o, e⟩⟩
theorem GoC.trans (a : GoC q F H F1 H1) (b : GoC q F1 H1 F2 H2) : GoC q F H F2 H2 where
  go := {
    ff := a.go.ff.trans b.go.ff
    fh := b.go.fh
    hh := fun x o e n => b.go.hh x o (a.go.hh x o e n) n
    ht := fun x o e n => b.go.ht x o (a.go.ht x o e n) n
    nf := fun x o n e => by
      obtain ⟨o', e'⟩ := a.dm x o e
      exact b.go.nf x o' (a.go.nf x o n e) e' }
  dm := fun x o e => by
    obtain ⟨o', e'⟩ := a.dm x o e
    exact b.dm x o' e'
theorem GoC.free (a : GoC q F H F1 H1) {x : Addr} (h : H1 x = none) : H x = none := none_some a.dm h
/-- a new object, kept in what stands | one's own -/
theorem GoC.new {p : Addr} {o : HO} (fh : Same F H) (hp : H p = none) : GoC q F H (upd F p o) (upd H p o) where
  go := {
    ff := fun a u e => by rw [upd_ne (ne_of_none (fh a u e) hp)]; exact e
    fh := fun a u e => by
      by_cases h : a = p
      · subst h; rw [upd_same] at e ⊢; exact e
      · rw [upd_ne h] at e ⊢; exact fh a u e
    hh := fun a u e _ => by rw [upd_ne (ne_of_none e hp)]; exact e
    ht := fun a u e _ => by rw [upd_ne (ne_of_none e hp)]; exact e
    nf := fun a u n e => by rw [upd_ne (ne_of_none e hp)]; exact n }
  dm := fun a u e => ⟨u, by rw [upd_ne (ne_of_none e hp)]; exact e⟩
theorem GoC.newO {p : Addr} {o : HO} (fh : Same F H) (hp : H p = none) : GoC q F H F (upd H p o) where
  go := {
    ff := Same.refl _
    fh := fun a u e => by rw [upd_ne (ne_of_none (fh a u e) hp)]; exact fh a u e
    hh := fun a u e _ => by rw [upd_ne (ne_of_none e hp)]; exact e
    ht := fun a u e _ => by rw [upd_ne (ne_of_none e hp)]; exact e
    nf := fun a u n e => n }
  dm := fun a u e => ⟨u, by rw [upd_ne (ne_of_none e hp)]; exact e⟩
end

/-- where a thing is read: what stands | all but the cell (to be read now) -/
inductive Rg where
  | fz | bo
def rg (q : Option Addr) : Rg → Hp → Hp → Hp
  | .fz, F, _ => F
  | .bo, _, H => fun a => if q = some a then none else H a
section
variable {q : Option Addr} {F H F1 H1 : Hp}
theorem rg_same {g : Rg} (fh : Same F H) : Same (rg q g F H) H := by
  cases g with
  | fz => exact fh
  | bo =>
    intro a o e
    have e : (if q = some a then none else H a) = some o := e
    by_cases h : q = some a
    · rw [if_pos h] at e; cases e
    · rw [if_neg h] at e; exact e
theorem rg_go {g : Rg} (a : GoE q F H F1 H1) : Same (rg q g F H) (rg q g F1 H1) := by
  cases g with
  | fz => exact a.ff
  | bo =>
    intro x o e
    have e : (if q = some x then none else H x) = some o := e
    show (if q = some x then none else H1 x) = some o
    by_cases h : q = some x
    · rw [if_pos h] at e; cases e
    · rw [if_neg h] at e ⊢
      exact a.hh x o e h
end

/-- what is new -/
def Fr (F' H H' : Hp) (A : AS) : Prop := ∀ a, A a → H a = none ∧ F' a = none ∧ ∃ o, H' a = some o ∧ Mk o = true
theorem Fr.no {F' H H' : Hp} : Fr F' H H' (fun _ => False) := fun _ h => h.elim

section
variable {C : Ctx} {F F' H H' : Hp} {B : AS} {σ : L2.St} {n n' : Int} {ds : DS} {k : Nat} {v : V} {d : D} {A : AS}
theorem Sim.go (S : Sim C F B σ H n ds) (g : GoC C.q F H F' H') (hc : ∀ q, C.q = some q → H' q = some (.lst [.int n'])) : Sim C F' B σ H' n' ds where
  fh := g.go.fh
  bok := fun a ha => by
    obtain ⟨h1, o, h2, h3⟩ := S.bok a ha
    refine ⟨g.go.nf a o h1 h2, ?_⟩
    by_cases hq : C.q = some a
    · exact ⟨_, hc a hq, rfl⟩
    · exact ⟨o, g.go.hh a o h2 hq, h3⟩
  cell := fun q hq => ⟨(S.cell q hq).1, hc q hq⟩
  pin := S.pin
  len := S.len
  rep := by
    obtain ⟨A, h1, h2, h3⟩ := S.rep
    refine ⟨A, fun i d e => ?_, h2, h3⟩
    obtain ⟨v, e1, r⟩ := h1 i d e
    exact ⟨v, e1, r.mono g.go.ff g.go.ht fun a o ha e => g.go.hh a o e (h2 i a ha).2⟩
/-- the cell untouched -/
theorem Sim.go0 (S : Sim C F B σ H n ds) (g : GoC none F H F' H') : Sim C F' B σ H' n ds :=
  S.go ⟨⟨g.go.ff, g.go.fh, fun a o e _ => g.go.hh a o e (by simp), g.go.ht, g.go.nf⟩, g.dm⟩ fun q hq => g.go.hh _ _ (S.cell q hq).2 (by simp)
theorem GoC.of0 {q : Option Addr} (g : GoC none F H F' H') : GoC q F H F' H' := ⟨⟨g.go.ff, g.go.fh, fun a o e _ => g.go.hh a o e (by simp), g.go.ht, g.go.nf⟩, g.dm⟩
theorem Sim.nq (S : Sim C F B σ H n ds) {q : Addr} (hq : C.q = some q) : H q ≠ none := by rw [(S.cell q hq).2]; simp
/-- a thing in hand stands while another is reckoned -/
theorem Rp.go {F0 H0 : Hp} {g : Rg} (r : Rp C.K (rg C.q g F H) H k v d A) (G : GoC C.q F H F' H') (hA : ∀ a, A a → C.q ≠ some a) : Rp C.K (rg C.q g F' H') H' k v d A :=
  r.mono (rg_go G.go) G.go.ht fun a o ha e => G.go.hh a o e (hA a ha)
theorem Rp.go0 {g : Rg} (r : Rp C.K (rg C.q g F H) H 0 v d A) (G : GoC C.q F H F' H') {A' : AS} : Rp C.K (rg C.q g F' H') H' 0 v d A' :=
  Rp.z ((r.z (A' := fun _ => False)).mono (rg_go G.go) G.go.ht fun a o ha e => ha.elim)
/-- what stands may be read now -/
theorem Rp.read (S : Sim C F B σ H n ds) (r : Rp C.K F H k v d A) (hA : ∀ a, A a → C.q ≠ some a) {A' : AS} : Rp C.K (rg C.q .bo F H) H 0 v d A' := by
  refine r.frz (fun a o e => ?_) fun a o ha e => ?_
  · show (if C.q = some a then none else H a) = some o
    rw [if_neg fun hq => ?_]
    · exact S.fh a o e
    · obtain ⟨h1, _⟩ := S.bok a (S.cell a hq).1
      rw [h1] at e; cases e
  · show (if C.q = some a then none else H a) = some o
    rw [if_neg (hA a ha)]
    exact e
theorem Rp.any (S : Sim C F B σ H n ds) {g : Rg} (r : Rp C.K F H 0 v d A) {A' : AS} : Rp C.K (rg C.q g F H) H 0 v d A' := by
  cases g with
  | fz => exact r.z
  | bo => exact Rp.read S (r.z (A' := fun _ => False)) fun _ h => h.elim
end
end GW

namespace GW
open PySem L2

inductive Ot (α : Type) where
  | ok (a : α) | ex (c : Nat) (fs : List (Str × Int))
abbrev Mo (α : Type) := Int → DS → Option (Ot α × Int)
abbrev M := Mo D
def mb {α β : Type} (m : Mo α) (f : α → Mo β) : Mo β := fun n ds => match m n ds with
  | none => none
  | some (.ex C fs, n1) => some (.ex C fs, n1)
  | some (.ok a, n1) => f a n1 ds
def ret {α : Type} (o : Option α) : Mo α := fun n _ => match o with
  | none => none
  | some d => some (.ok d, n)

/-- an error's dict, made since H -/
def ExR (H H' : Hp) (od : Option Addr) (fs : List (Str × Int)) : Prop := (fs = [] ∧ od = none) ∨ ∃ d, od = some d ∧ H d = none ∧ H' d = some (.xd (fs.map fun p => (p.1, V.int p.2)))
theorem ExR.tr {q : Option Addr} {F H F1 H1 H2 : Hp} {od : Option Addr} {fs : List (Str × Int)} (G : GoC q F H F1 H1) (h : ExR H1 H2 od fs) : ExR H H2 od fs := by
  rcases h with h | ⟨d, h1, h2, h3⟩
  · exact .inl h
  · exact .inr ⟨d, h1, G.free h2, h3⟩

def WL (C : Ctx) (wx : WX) {α β : Type} (R : Hp → Hp → Hp → β → α → Prop) (m : Mo α) (F : Hp) (B : AS) (n : Int) (ds : DS) (σ : L2.St) (H : Hp) (Q : β → Hp → Prop) : Prop :=
  match m n ds with
  | none => False
  | some (.ok d, n') => ∀ v F' H', GoC C.q F H F' H' → Sim C F' B σ H' n' ds → R H F' H' v d → Q v H'
  | some (.ex c fs, n') => ∀ F' H' od, GoC C.q F H F' H' → Sim C F' B σ H' n' ds → ExR H H' od fs → wx (.ref (ec C.K c)) od σ H'
def WW (C : Ctx) (wx : WX) {α β : Type} (R : Hp → Hp → Hp → β → α → Prop) (m : Mo α) : L2.St → Hp → (β → Hp → Prop) → Prop :=
  fun σ H Q => ∃ F B n ds, Sim C F B σ H n ds ∧ WL C wx R m F B n ds σ H Q

def RV (C : Ctx) (g : Rg) (k : Nat) : Hp → Hp → Hp → V → D → Prop := fun H F' H' v d => ∃ A, Rp C.K (rg C.q g F' H') H' k v d A ∧ Fr F' H H' A
def RT : Hp → Hp → Hp → Bool → Bool → Prop := fun _ _ _ v d => v = d
abbrev RpL (K : PySem.W.Frag) (G H : Hp) (vs : List V) (ds : List D) : Prop := vs.length = ds.length ∧ ∀ (i : Nat) v d, vs[i]? = some v → ds[i]? = some d → Rp K G H 0 v d (fun _ => False)
def RA (C : Ctx) (g : Rg) : Hp → Hp → Hp → List V → List D → Prop := fun _ F' H' vs ds => RpL C.K (rg C.q g F' H') H' vs ds
abbrev W (C : Ctx) (wx : WX) (g : Rg) (k : Nat) (m : M) : TE := WW C wx (RV C g k) m
abbrev WT (C : Ctx) (wx : WX) (m : Mo Bool) : TT := WW C wx RT m
abbrev WA (C : Ctx) (wx : WX) (g : Rg) (m : Mo (List D)) : TA := WW C wx (RA C g) m

section
variable {C : Ctx} {wx : WX} {α β γ δ : Type} {R : Hp → Hp → Hp → β → α → Prop} {m : Mo α} {F : Hp} {B : AS} {n : Int} {ds : DS} {σ : L2.St} {H : Hp} {Q Q' : β → Hp → Prop}
theorem WL.mono (h : WL C wx R m F B n ds σ H Q) (hQ : ∀ v H', Q v H' → Q' v H') : WL C wx R m F B n ds σ H Q' := by
  unfold WL at h ⊢
  cases e : m n ds with
  | none => rw [e] at h; exact h
  | some p =>
    rw [e] at h
    obtain ⟨o, n'⟩ := p
    cases o with
    | ok d => exact fun v F' H' g S r => hQ v H' (h v F' H' g S r)
    | ex c fs => exact h
theorem WL.bind {f : α → Mo γ} {R2 : Hp → Hp → Hp → δ → γ → Prop} {P : δ → Hp → Prop} (h : WL C wx R2 (mb m f) F B n ds σ H P)
    (tr : ∀ F1 H1 F2 H2 v d, GoC C.q F H F1 H1 → R2 H1 F2 H2 v d → R2 H F2 H2 v d) :
    WL C wx R m F B n ds σ H fun v H1 => ∃ F1 n1 d, GoC C.q F H F1 H1 ∧ Sim C F1 B σ H1 n1 ds ∧ R H F1 H1 v d ∧ WL C wx R2 (f d) F1 B n1 ds σ H1 P := by
  unfold WL at h ⊢
  cases e : m n ds with
  | none => simp only [mb, e] at h
  | some p =>
    obtain ⟨o, n'⟩ := p
    cases o with
    | ex c fs => simp only [mb, e] at h; exact h
    | ok d =>
      simp only [mb, e] at h
      intro v F1 H1 g S r
      refine ⟨F1, n', d, g, S, r, ?_⟩
      cases e2 : f d n' ds with
      | none => rw [e2] at h; exact h
      | some p2 =>
        rw [e2] at h
        obtain ⟨o2, n2⟩ := p2
        cases o2 with
        | ok d2 => exact fun v2 F2 H2 g2 S2 r2 => h v2 F2 H2 (g.trans g2) S2 (tr F1 H1 F2 H2 v2 d2 g r2)
        | ex c fs => exact fun F2 H2 od g2 S2 r2 => h F2 H2 od (g.trans g2) S2 (r2.tr g)
theorem RV.tr {g : Rg} {k : Nat} {F1 H1 F2 H2 : Hp} {v : V} {d : D} (G : GoC C.q F H F1 H1) (r : RV C g k H1 F2 H2 v d) : RV C g k H F2 H2 v d := by
  obtain ⟨A, r, f⟩ := r
  exact ⟨A, r, fun a ha => ⟨G.free (f a ha).1, (f a ha).2⟩⟩
theorem WW.imp {t : L2.St → Hp → (β → Hp → Prop) → Prop} (h : ∀ F B n ds, Sim C F B σ H n ds → WL C wx R m F B n ds σ H Q → t σ H Q) (w : WW C wx R m σ H Q) : t σ H Q := by
  obtain ⟨F, B, n, ds, S, h2⟩ := w
  exact h F B n ds S h2
end

section
variable {X : Cx} {e : Expr} {es : List Expr}
theorem _root_.L2.PE.wk {t t' : TE} (h : PE X e t) (w : ∀ σ H Q, t' σ H Q → t σ H Q) : PE X e t' := ⟨fun pins s σ H Q I q => h.run pins s σ H Q I (w _ _ _ q)⟩
theorem _root_.L2.PT.wk {t t' : TT} (h : PT X e t) (w : ∀ σ H Q, t' σ H Q → t σ H Q) : PT X e t' := ⟨fun pins s σ H Q I q => h.run pins s σ H Q I (w _ _ _ q)⟩
theorem _root_.L2.PW.wk {t t' : TT} (h : PW X e t) (w : ∀ σ H Q, t' σ H Q → t σ H Q) : PW X e t' := ⟨fun whole pins s σ H Q I q => h.run whole pins s σ H Q I (w _ _ _ q)⟩
theorem _root_.L2.PA.wk {t t' : TA} (h : PA X es t) (w : ∀ σ H Q, t' σ H Q → t σ H Q) : PA X es t' := ⟨fun pos pins s σ H Q I q => h.run pos pins s σ H Q I (w _ _ _ q)⟩
theorem _root_.L2.PS.wk {st : Stmt} {t t' : TS} (h : PS X st t) (w : ∀ D σ H, t' D σ H → t D σ H) : PS X st t' := ⟨fun pins s σ H D I q => h.run pins s σ H D I (w _ _ _ q)⟩
theorem _root_.L2.PSs.wk {st : List Stmt} {t t' : TS} (h : PSs X st t) (w : ∀ D σ H, t' D σ H → t D σ H) : PSs X st t' := ⟨fun pins s σ H D I q => h.run pins s σ H D I (w _ _ _ q)⟩
end

/-! ### what a value's reckoning ends with -/
section
variable {C : Ctx} {wx : WX} {g : Rg} {k : Nat} {F : Hp} {B : AS} {n : Int} {ds : DS} {σ : L2.St} {H : Hp} {Q : VK} {d : D} {o : Option D}
theorem WL.retE {α β : Type} {R : Hp → Hp → Hp → β → α → Prop} {o : Option α} {Q : β → Hp → Prop} (h : WL C wx R (ret o) F B n ds σ H Q) : ∃ d, o = some d ∧ ∀ v F' H', GoC C.q F H F' H' → Sim C F' B σ H' n ds → R H F' H' v d → Q v H' := by
  unfold WL at h
  cases o with
  | none => exact h.elim
  | some d => exact ⟨d, rfl, h⟩
/-- a scalar -/
theorem WL.sc (S : Sim C F B σ H n ds) (h : WL C wx (RV C g k) (ret o) F B n ds σ H Q) : ∃ d, o = some d ∧ ∀ v, scV d = some v → Q v H := by
  obtain ⟨d, e, q⟩ := h.retE
  exact ⟨d, e, fun v hv => q v F H (GoC.refl S.fh) S ⟨fun _ => False, Rp.of_sc hv, Fr.no⟩⟩
/-- what is told as it stands -/
theorem WL.same {A : AS} (S : Sim C F B σ H n ds) (h : WL C wx (RV C g 0) (ret o) F B n ds σ H Q) : ∃ d, o = some d ∧ ∀ v, Rp C.K (rg C.q g F H) H 0 v d A → Q v H := by
  obtain ⟨d, e, q⟩ := h.retE
  exact ⟨d, e, fun v hv => q v F H (GoC.refl S.fh) S ⟨fun _ => False, hv.z, Fr.no⟩⟩
end

/-! ### names, constants -/
def mVar (i : Nat) : M := fun n ds => match ds[i]? with
  | some (some d) => some (.ok d, n)
  | _ => none
section
variable {X : Cx} {C : Ctx} {wx : WX} {g : Rg} {k : Nat} {e : Expr}
theorem ve_var {i : Nat} (h : PE X e (tVar i)) (hT : C.T i = 0 ∨ g = .bo) : PE X e (W C wx g 0 (mVar i)) := by
  refine h.wk fun σ H Q w => w.imp fun F B n ds S h => ?_
  unfold WL mVar at h
  cases e : ds[i]? with
  | none => rw [e] at h; exact h.elim
  | some x =>
    cases x with
    | none => rw [e] at h; exact h.elim
    | some d =>
      rw [e] at h
      obtain ⟨A, h1, h2, h3⟩ := S.rep
      obtain ⟨v, hv, r⟩ := h1 i d e
      refine ⟨v, hv, h v F H (GoC.refl S.fh) S ⟨fun _ => False, ?_, Fr.no⟩⟩
      rcases hT with hT | hT
      · rw [hT] at r; exact Rp.any S r
      · subst hT; exact Rp.read S r fun a ha => (h2 i a ha).2
def mC (d : D) : M := ret (some d)
theorem ve_c {v : V} {d : D} (h : PE X e (tC v)) (hd : scV d = some v) : PE X e (W C wx g k (mC d)) := by
  refine h.wk fun σ H Q w => w.imp fun F B n ds S h => ?_
  obtain ⟨d', e, q⟩ := h.sc S
  cases e
  exact q v hd
theorem ve_int {i : Int} {j : Nat} {pos : Pos} : PE X (.Constant (.int i) j pos) (W C wx g k (mC (.int i))) := ve_c pe_int rfl
theorem ve_str {x : Str} {j : Nat} {pos : Pos} : PE X (.Constant (.str x) j pos) (W C wx g k (mC (.str x))) := ve_c pe_str rfl
theorem ve_bl {x : Bool} {j : Nat} {pos : Pos} : PE X (.Constant (.bool x) j pos) (W C wx g k (mC (.bl x))) := ve_c pe_bl rfl
theorem ve_non {j : Nat} {pos : Pos} : PE X (.Constant .none j pos) (W C wx g k (mC .non)) := ve_c pe_non rfl

/-! ### from one way of standing to another -/
theorem ve_bo {m : M} (h : PE X e (W C wx .fz k m)) : PE X e (W C wx .bo 0 m) := by
  refine h.wk fun σ H Q w => ?_
  obtain ⟨F, B, n, ds, S, h⟩ := w
  refine ⟨F, B, n, ds, S, ?_⟩
  unfold WL at h ⊢
  cases e : m n ds with
  | none => rw [e] at h; exact h
  | some p =>
    rw [e] at h
    obtain ⟨o, n'⟩ := p
    cases o with
    | ex c fs => exact h
    | ok d =>
      rintro v F' H' G S' ⟨A, r, f⟩
      exact h v F' H' G S' ⟨fun _ => False, Rp.read S' r fun a ha q => by
        have := (f a ha).1
        exact S.nq q this, Fr.no⟩
/-- a thing that is one's own is let stand -/
theorem W.frz {m : M} {σ : L2.St} {H : Hp} {Q : VK} (w : W C wx .fz 0 m σ H Q) : W C wx .fz k m σ H Q := by
  obtain ⟨F, B, n, ds, S, h⟩ := w
  refine ⟨F, B, n, ds, S, ?_⟩
  unfold WL at h ⊢
  cases e : m n ds with
  | none => rw [e] at h; exact h
  | some p =>
    rw [e] at h
    obtain ⟨o, n'⟩ := p
    cases o with
    | ex c fs => exact h
    | ok d =>
      rintro v F' H' G S' ⟨A, r, f⟩
      classical
      let G' : Hp := fun a => if A a then H' a else F' a
      have hA : ∀ a, A a → G' a = H' a := fun a ha => if_pos ha
      have hN : ∀ a, ¬ A a → G' a = F' a := fun a ha => if_neg ha
      have ff : Same F' G' := fun a o e => by
        by_cases ha : A a
        · rw [(f a ha).2.1] at e; cases e
        · rw [hN a ha]; exact e
      have fh : Same G' H' := fun a o e => by
        by_cases ha : A a
        · rw [hA a ha] at e; exact e
        · rw [hN a ha] at e; exact S'.fh a o e
      have g2 : GoC C.q F H G' H' := ⟨⟨G.go.ff.trans ff, fh, G.go.hh, G.go.ht, fun a o n e => by
        by_cases ha : A a
        · have := (f a ha).1; rw [e] at this; cases this
        · rw [hN a ha]; exact G.go.nf a o n e⟩, G.dm⟩
      have S2 : Sim C G' B σ H' n' ds := ⟨fh, fun a ha => ⟨by
          by_cases hA' : A a
          · obtain ⟨_, o, h2, _⟩ := S.bok a ha
            have := (f a hA').1
            rw [h2] at this; cases this
          · rw [hN a hA']; exact (S'.bok a ha).1, (S'.bok a ha).2⟩, S'.cell, S'.pin, S'.len, by
        obtain ⟨A2, h1, h2, h3⟩ := S'.rep
        exact ⟨A2, fun i d e => by
          obtain ⟨v, e1, r⟩ := h1 i d e
          exact ⟨v, e1, r.mono ff (fun _ _ e _ => e) fun _ _ _ e => e⟩, h2, h3⟩⟩
      exact h v G' H' g2 S2 ⟨fun _ => False, r.frz ff fun a o ha e => by rw [hA a ha]; exact e, Fr.no⟩
theorem ve_frz {m : M} (h : PE X e (W C wx .fz k m)) : PE X e (W C wx .fz 0 m) := h.wk fun σ H Q w => W.frz w
def mFlat (m : M) : M := mb m fun d => ret (if flat d = true then some d else none)
theorem ve_flat {m : M} (h : PE X e (W C wx .bo 0 m)) : PE X e (W C wx g k (mFlat m)) := by
  refine h.wk fun σ H Q w => ?_
  obtain ⟨F, B, n, ds, S, h⟩ := w
  refine ⟨F, B, n, ds, S, (h.bind fun F1 H1 F2 H2 v d G r => r.tr G).mono fun v H1 ⟨F1, n1, d, G, S1, ⟨A, r, f⟩, h1⟩ => ?_⟩
  obtain ⟨d', e1, q⟩ := h1.retE
  by_cases hf : flat d = true
  · rw [if_pos hf] at e1
    cases e1
    exact q v F1 H1 (GoC.refl S1.fh) S1 ⟨fun _ => False, r.flat_any hf _ _ _, Fr.no⟩
  · rw [if_neg hf] at e1; cases e1
end

/-! ### operators -/
section
variable {X : Cx} {C : Ctx} {wx : WX} {g : Rg} {k : Nat} {a b c e : Expr} {pos : Pos}
/-- two values, then what they make -/
def m2 (ma mc : M) (o : D → D → Option D) : M := mb ma fun x => mb mc fun y => ret (o x y)
def m1 (ma : M) (o : D → Option D) : M := mb ma fun x => ret (o x)
/-- an operation on values that gives a scalar: r allows it where o tells one -/
def OpS (K : PySem.W.Frag) (r : R2) (o : D → D → Option D) : Prop := ∀ (G H : Hp) (x y : V) (a b d : D) (A A' : AS), Same G H → Rp K G H 0 x a A → Rp K G H 0 y b A' → o a b = some d → ∃ v, scV d = some v ∧ ∀ Q : VK, Q v H → r x y H Q
def UnS (K : PySem.W.Frag) (r : V → Hp → VK → Prop) (o : D → Option D) : Prop := ∀ (G H : Hp) (x : V) (a d : D) (A : AS), Same G H → Rp K G H 0 x a A → o a = some d → ∃ v, scV d = some v ∧ ∀ Q : VK, Q v H → r x H Q
theorem tOp_of {ma mc : M} {r : R2} {o : D → D → Option D} (ho : OpS C.K r o) {σ : L2.St} {H : Hp} {Q : VK} (w : W C wx g k (m2 ma mc o) σ H Q) : tOp r (W C wx .bo 0 ma) (W C wx .bo 0 mc) σ H Q := by
  refine w.imp (t := fun σ H Q => tOp r _ _ σ H Q) fun F B n ds S h => ?_
  refine ⟨F, B, n, ds, S, (h.bind fun F1 H1 F2 H2 v d G r => r.tr G).mono fun x H1 ⟨F1, n1, da, G1, S1, ⟨A1, r1, f1⟩, h1⟩ => ?_⟩
  refine ⟨F1, B, n1, ds, S1, (h1.bind fun F1 H1 F2 H2 v d G r => r.tr G).mono fun y H2 ⟨F2, n2, db, G2, S2, ⟨A2, r2, f2⟩, h2⟩ => ?_⟩
  obtain ⟨d, e, q⟩ := h2.sc S2
  have r1' : Rp C.K (rg C.q .bo F2 H2) H2 0 x da (fun _ => False) := Rp.go0 (g := .bo) r1 G2
  obtain ⟨v, hv, hr⟩ := ho _ _ x y da db d _ _ (rg_same S2.fh) r1' r2 e
  exact hr Q (q v hv)
theorem ve_op {op : Operator} {ma mc : M} {r : R2} {o : D → D → Option D} (hr : OpR X (binaryOp op) r) (ho : OpS C.K r o) (ha : PE X a (W C wx .bo 0 ma)) (hb : PE X b (W C wx .bo 0 mc)) : PE X (.BinOp a op b pos) (W C wx g k (m2 ma mc o)) :=
  (pe_op hr ha hb).wk fun σ H Q w => tOp_of ho w
theorem ve_cmp {op : CmpOp} {ma mc : M} {r : R2} {o : D → D → Option D} (hr : OpR X (compareOp op) r) (ho : OpS C.K r o) (ha : PE X a (W C wx .bo 0 ma)) (hb : PE X b (W C wx .bo 0 mc)) (hm : behindInMarks op b = false) : PE X (.Compare a [op] [b] pos) (W C wx g k (m2 ma mc o)) :=
  (pe_cmpR hr ha hb hm).wk fun σ H Q w => tOp_of ho w
theorem tUn_of {ma : M} {r : V → Hp → VK → Prop} {o : D → Option D} (ho : UnS C.K r o) {σ : L2.St} {H : Hp} {Q : VK} (w : W C wx g k (m1 ma o) σ H Q) : tUn r (W C wx .bo 0 ma) σ H Q := by
  refine w.imp (t := fun σ H Q => tUn r _ σ H Q) fun F B n ds S h => ?_
  refine ⟨F, B, n, ds, S, (h.bind fun F1 H1 F2 H2 v d G r => r.tr G).mono fun x H1 ⟨F1, n1, da, G1, S1, ⟨A1, r1, f1⟩, h1⟩ => ?_⟩
  obtain ⟨d, e, q⟩ := h1.sc S1
  obtain ⟨v, hv, hr⟩ := ho _ _ x da d _ (rg_same S1.fh) r1 e
  exact hr Q (q v hv)
theorem ve_un {op : UnaryOp} {ma : M} {r : V → Hp → VK → Prop} {o : D → Option D} (hr : UnR X (unaryOp op) r) (ho : UnS C.K r o) (ha : PE X a (W C wx .bo 0 ma)) : PE X (.UnaryOp op a pos) (W C wx g k (m1 ma o)) :=
  (pe_un hr ha).wk fun σ H Q w => tUn_of ho w
end

/-! ### ints and texts -/
/-- a proposition's truth, not to be reckoned -/
noncomputable def dec (P : Prop) : Bool := @decide P (Classical.propDecidable P)
theorem dec_iff {P : Prop} : dec P = true ↔ P := by
  unfold dec; exact @decide_eq_true_iff P (Classical.propDecidable P)
theorem dec_of {P : Prop} (h : P) : dec P = true := dec_iff.mpr h
noncomputable def mulOk (i j : Int) : Bool := dec ((-18446744073709551616 < i ∧ i < 18446744073709551616) ∨ (-18446744073709551616 < j ∧ j < 18446744073709551616) ∨ i.natAbs.log2 + j.natAbs.log2 < 1000000)
noncomputable def divOk (j : Int) : Bool := dec (0 < j ∧ j.natAbs.log2 < 9000)
noncomputable def powOk (i j : Int) : Bool := dec (0 ≤ j ∧ j ≤ 1000000 ∧ i.natAbs < 18446744073709551616)
def oAdd : D → D → Option D
  | .int i, .int j => some (.int (i + j))
  | .str x, .str y => if x.length + y.length ≤ sizeLine then some (.str (x ++ y)) else none
  | _, _ => none
def oSub : D → D → Option D
  | .int i, .int j => some (.int (i - j))
  | _, _ => none
noncomputable def oMul : D → D → Option D
  | .int i, .int j => if mulOk i j = true then some (.int (i * j)) else none
  | _, _ => none
noncomputable def oDiv : D → D → Option D
  | .int i, .int j => if divOk j = true then some (.int (i / j)) else none
  | _, _ => none
def oMod : D → D → Option D
  | .int i, .int j => if 0 < j then some (.int (i % j)) else none
  | _, _ => none
noncomputable def oPow : D → D → Option D
  | .int i, .int j => if powOk i j = true then some (.int (i ^ j.toNat)) else none
  | _, _ => none
def oNeg : D → Option D
  | .int i => some (.int (-i))
  | _ => none
def rAddIS : R2 := fun x y H Q => (rI0 fun i j => .int (i + j)) x y H Q ∨ (fun x y H Q => ∃ i j, x = .str i ∧ y = .str j ∧ i.length + j.length ≤ sizeLine ∧ Q (.str (i ++ j)) H : R2) x y H Q
def rMulW : R2 := fun x y H Q => (rI CMul fun i j => .int (i * j)) x y H Q ∨ (rI CMulW fun i j => .int (i * j)) x y H Q
section
variable {K : PySem.W.Frag} {X : Cx}
theorem op_addIS : OpR X (binaryOp .Add) rAddIS := op_add.or op_add_str
theorem op_mulIW : OpR X (binaryOp .Mult) rMulW := op_mul.or op_mulW
theorem os_add : OpS K rAddIS oAdd := by
  intro G H x y a b d A A' hs ra rb e
  unfold oAdd at e
  split at e
  · cases e
    exact ⟨_, rfl, fun Q q => .inl ⟨_, _, ra.int_, rb.int_, q⟩⟩
  · split at e
    · rename_i hl
      cases e
      exact ⟨_, rfl, fun Q q => .inr ⟨_, _, ra.str_, rb.str_, hl, q⟩⟩
    · cases e
  · cases e
theorem os_sub : OpS K (rI0 fun i j => .int (i - j)) oSub := by
  intro G H x y a b d A A' hs ra rb e
  unfold oSub at e
  split at e
  · cases e
    exact ⟨_, rfl, fun Q q => ⟨_, _, ra.int_, rb.int_, q⟩⟩
  · cases e
theorem os_mul : OpS K rMulW oMul := by
  intro G H x y a b d A A' hs ra rb e
  unfold oMul at e
  split at e
  · split at e
    · rename_i hl
      cases e
      refine ⟨_, rfl, fun Q q => ?_⟩
      unfold mulOk at hl
      rcases dec_iff.mp hl with hl | hl | hl
      · exact .inl ⟨_, _, ra.int_, rb.int_, .inl ⟨by omega, by omega⟩, q⟩
      · exact .inl ⟨_, _, ra.int_, rb.int_, .inr ⟨by omega, by omega⟩, q⟩
      · exact .inr ⟨_, _, ra.int_, rb.int_, (hl : _ + _ < 1000000), q⟩
    · cases e
  · cases e
theorem divOk.ok {i j : Int} (h : divOk j = true) : CDivW i j := by
  unfold divOk at h
  exact dec_iff.mp h
theorem os_div : OpS K (rI CDivW fun i j => .int (i / j)) oDiv := by
  intro G H x y a b d A A' hs ra rb e
  unfold oDiv at e
  split at e
  · split at e
    · rename_i hl
      cases e
      exact ⟨_, rfl, fun Q q => ⟨_, _, ra.int_, rb.int_, divOk.ok hl, q⟩⟩
    · cases e
  · cases e
theorem os_mod : OpS K (rI (fun _ j => 0 < j) fun i j => .int (i % j)) oMod := by
  intro G H x y a b d A A' hs ra rb e
  unfold oMod at e
  split at e
  · split at e
    · rename_i hl
      cases e
      exact ⟨_, rfl, fun Q q => ⟨_, _, ra.int_, rb.int_, hl, q⟩⟩
    · cases e
  · cases e
theorem os_pow : OpS K (rI CPow fun i j => .int (i ^ j.toNat)) oPow := by
  intro G H x y a b d A A' hs ra rb e
  unfold oPow at e
  split at e
  · split at e
    · rename_i hl
      cases e
      unfold powOk at hl
      have hl := dec_iff.mp hl
      exact ⟨_, rfl, fun Q q => ⟨_, _, ra.int_, rb.int_, ⟨hl.1, hl.2.1, by have := hl.2.2; omega⟩, q⟩⟩
    · cases e
  · cases e
theorem us_neg : UnS K (rU fun i => .int (-i)) oNeg := by
  intro G H x a d A hs ra e
  unfold oNeg at e
  split at e
  · cases e
    exact ⟨_, rfl, fun Q q => ⟨_, ra.int_, q⟩⟩
  · cases e
/-! ### comparisons -/
def oCmp (p : Int → Int → Bool) : D → D → Option D
  | .int i, .int j => some (.bl (p i j))
  | _, _ => none
theorem os_cmp {p : Int → Int → Bool} : OpS K (rI0 fun i j => .bl (p i j)) (oCmp p) := by
  intro G H x y a b d A A' hs ra rb e
  unfold oCmp at e
  split at e
  · cases e
    exact ⟨_, rfl, fun Q q => ⟨_, _, ra.int_, rb.int_, q⟩⟩
  · cases e
def oLt := oCmp fun i j => decide (i < j)
def oLe := oCmp fun i j => decide (i ≤ j)
def oGt := oCmp fun i j => decide (j < i)
def oGe := oCmp fun i j => decide (j ≤ i)
/-- == of scalars -/
def oEq (a b : D) : Option D := match scV a, scV b with
  | some x, some y => if scal x y = true then some (.bl (decide (x = y))) else none
  | _, _ => none
def oNe (a b : D) : Option D := match scV a, scV b with
  | some x, some y => if scal x y = true then some (.bl (!decide (x = y))) else none
  | _, _ => none
theorem os_eq : OpS K rEq oEq := by
  intro G H x y a b d A A' hs ra rb e
  unfold oEq at e
  split at e
  · rename_i x' y' h1 h2
    split at e
    · rename_i hl
      cases e
      have e1 := ra.sc h1
      have e2 := rb.sc h2
      subst e1 e2
      exact ⟨_, rfl, fun Q q => ⟨hl, q⟩⟩
    · cases e
  · cases e
theorem os_ne : OpS K rNe oNe := by
  intro G H x y a b d A A' hs ra rb e
  unfold oNe at e
  split at e
  · rename_i x' y' h1 h2
    split at e
    · rename_i hl
      cases e
      have e1 := ra.sc h1
      have e2 := rb.sc h2
      subst e1 e2
      exact ⟨_, rfl, fun Q q => ⟨hl, q⟩⟩
    · cases e
  · cases e
def isNon : D → Bool
  | .non => true
  | _ => false
theorem Rp.isNon {G H : Hp} {k : Nat} {x : V} {a : D} {A : AS} (r : Rp K G H k x a A) : decide (x = .non) = isNon a := by
  cases r <;> simp [GW.isNon]
def oIs (a b : D) : Option D := if isNon b = true then some (.bl (isNon a)) else none
def oIsNot (a b : D) : Option D := if isNon b = true then some (.bl (!isNon a)) else none
theorem isNon_eq {b : D} (h : isNon b = true) : b = .non := by
  cases b <;> simp [isNon] at h
  rfl
theorem os_is : OpS K (fun x y H Q => y = .non ∧ Q (.bl (decide (x = .non))) H) oIs := by
  intro G H x y a b d A A' hs ra rb e
  unfold oIs at e
  split at e
  · rename_i hl
    cases e
    have hb := isNon_eq hl
    subst hb
    exact ⟨_, rfl, fun Q q => ⟨rb.non_, by rw [ra.isNon]; exact q⟩⟩
  · cases e
theorem os_isnot : OpS K (fun x y H Q => y = .non ∧ Q (.bl (!decide (x = .non))) H) oIsNot := by
  intro G H x y a b d A A' hs ra rb e
  unfold oIsNot at e
  split at e
  · rename_i hl
    cases e
    have hb := isNon_eq hl
    subst hb
    exact ⟨_, rfl, fun Q q => ⟨rb.non_, by rw [ra.isNon]; exact q⟩⟩
  · cases e
end
end GW

namespace GW
open PySem L2

theorem RV_of0 {C : Ctx} {g : Rg} {k : Nat} {H F' H' : Hp} {v : V} {d : D} (r : Rp C.K (rg C.q g F' H') H' k v d (fun _ => False)) : RV C g k H F' H' v d := ⟨_, r, Fr.no⟩

/-! ### tests -/
def mTest (m : M) : Mo Bool := mb m fun d => ret (match d with | .bl b => some b | _ => none)
section
variable {X : Cx} {C : Ctx} {wx : WX} {g : Rg} {k : Nat} {a b c e : Expr} {es : List Expr} {pos : Pos} {ma mc m : M} {ta tc : Mo Bool}
theorem test_bl {d : D} {b : Bool} (h : (match d with | .bl b => some b | _ => none) = some b) : d = .bl b := by
  cases d <;> first | (cases h; rfl) | cases h
theorem tB_of {t : TE} (ht : ∀ σ H Q, W C wx .bo 0 m σ H Q → t σ H Q) {σ : L2.St} {H : Hp} {Q : Bool → Hp → Prop} (w : WT C wx (mTest m) σ H Q) : t σ H fun x H1 => ∃ c, x = .bl c ∧ Q c H1 := by
  refine ht _ _ _ ?_
  obtain ⟨F, B, n, ds, S, h⟩ := w
  refine ⟨F, B, n, ds, S, (h.bind fun F1 H1 F2 H2 v d G r => r).mono fun x H1 ⟨F1, n1, d, G1, S1, ⟨A1, r1, f1⟩, h1⟩ => ?_⟩
  obtain ⟨b, e, q⟩ := h1.retE
  have := test_bl e
  subst this
  exact ⟨b, r1.bl_, q b F1 H1 (GoC.refl S1.fh) S1 rfl⟩
theorem vt_val (h : PE X e (W C wx .bo 0 m)) (he : ∀ whole, isTrue e X.env whole = (do let v ← whole; standAt e.pos; holding [v] (truthy v)) := by intro _; rfl) : PT X e (WT C wx (mTest m)) :=
  (pt_val h he).wk fun σ H Q w => tB_of (t := W C wx .bo 0 m) (fun _ _ _ z => z) w
theorem vt_cmp {op : CmpOp} {r : R2} {o : D → D → Option D} (hr : OpR X (compareOp op) r) (ho : OpS C.K r o) (ha : PE X a (W C wx .bo 0 ma)) (hb : PE X b (W C wx .bo 0 mc)) (hm : behindInMarks op b = false) : PT X (.Compare a [op] [b] pos) (WT C wx (mTest (m2 ma mc o))) :=
  (pt_cmpR hr ha hb hm).wk fun σ H Q w => tB_of (t := tOp r _ _) (fun _ _ _ z => tOp_of ho z) w
def mNot (t : Mo Bool) : Mo Bool := mb t fun b => ret (some (!b))
theorem vt_not (h : PT X a (WT C wx ta)) : PT X (.UnaryOp .Not a pos) (WT C wx (mNot ta)) := by
  refine (pt_not h).wk fun σ H Q w => ?_
  obtain ⟨F, B, n, ds, S, h⟩ := w
  refine ⟨F, B, n, ds, S, (h.bind fun F1 H1 F2 H2 v d G r => r).mono fun x H1 ⟨F1, n1, d, G1, S1, r1, h1⟩ => ?_⟩
  obtain ⟨b, e, q⟩ := h1.retE
  cases e
  have r1 : x = d := r1
  subst r1
  exact q _ F1 H1 (GoC.refl S1.fh) S1 rfl
def mAnd (t u : Mo Bool) : Mo Bool := mb t fun b => match b with | true => u | false => ret (some false)
def mOr (t u : Mo Bool) : Mo Bool := mb t fun b => match b with | true => ret (some true) | false => u
theorem vw_one_and (h : PT X a (WT C wx ta)) : PW X (.BoolOp .And [a] pos) (WT C wx ta) := pw_and1 h
theorem vw_one_or (h : PT X a (WT C wx ta)) : PW X (.BoolOp .Or [a] pos) (WT C wx ta) := pw_or1 h
theorem vw_and {rest : List Expr} (ha : PT X a (WT C wx ta)) (hb : PW X (.BoolOp .And (b :: rest) pos) (WT C wx tc)) : PW X (.BoolOp .And (a :: b :: rest) pos) (WT C wx (mAnd ta tc)) := by
  refine (pw_and ha hb).wk fun σ H Q w => ?_
  obtain ⟨F, B, n, ds, S, h⟩ := w
  refine ⟨F, B, n, ds, S, (h.bind fun F1 H1 F2 H2 v d G r => r).mono fun x H1 ⟨F1, n1, d, G1, S1, r1, h1⟩ => ?_⟩
  have r1 : x = d := r1
  subst r1
  cases x with
  | true => rw [if_pos rfl]; exact ⟨F1, B, n1, ds, S1, h1⟩
  | false =>
    rw [if_neg Bool.false_ne_true]
    obtain ⟨b, e, q⟩ := h1.retE
    cases e
    exact q _ F1 H1 (GoC.refl S1.fh) S1 rfl
theorem vw_or {rest : List Expr} (ha : PT X a (WT C wx ta)) (hb : PW X (.BoolOp .Or (b :: rest) pos) (WT C wx tc)) : PW X (.BoolOp .Or (a :: b :: rest) pos) (WT C wx (mOr ta tc)) := by
  refine (pw_or ha hb).wk fun σ H Q w => ?_
  obtain ⟨F, B, n, ds, S, h⟩ := w
  refine ⟨F, B, n, ds, S, (h.bind fun F1 H1 F2 H2 v d G r => r).mono fun x H1 ⟨F1, n1, d, G1, S1, r1, h1⟩ => ?_⟩
  have r1 : x = d := r1
  subst r1
  cases x with
  | false => rw [if_neg Bool.false_ne_true]; exact ⟨F1, B, n1, ds, S1, h1⟩
  | true =>
    rw [if_pos rfl]
    obtain ⟨b, e, q⟩ := h1.retE
    cases e
    exact q _ F1 H1 (GoC.refl S1.fh) S1 rfl
/-- truth of any value -/
def oTru : D → Option Bool
  | .non => some false
  | .bl b => some b
  | .int i => some (i != 0)
  | .str x => if x.length ≤ sizeLine then some ((x.length : Int) != 0) else none
  | .tup ds => some (!ds.isEmpty)
  | .lst ds => some (!ds.isEmpty)
  | _ => none
theorem isEmpty_len {α β : Type} {xs : List α} {ys : List β} (h : xs.length = ys.length) : xs.isEmpty = ys.isEmpty := by
  cases xs <;> cases ys <;> simp at h ⊢
theorem tru_of {K : PySem.W.Frag} {G H : Hp} {x : V} {d : D} {A : AS} {b : Bool} (s : Same G H) (r : Rp K G H 0 x d A) (e : oTru d = some b) : TruV K x H b := by
  cases r with
  | non => cases e; rfl
  | bl => cases e; rfl
  | int => cases e; rfl
  | str =>
    simp only [oTru] at e
    split at e
    · rename_i h; cases e; exact ⟨h, rfl⟩
    · cases e
  | tup h l c => cases e; exact .inr (.inl ⟨_, h, by rw [isEmpty_len l]⟩)
  | lst h l c => cases e; exact .inl ⟨_, sqL_mono h s, by rw [isEmpty_len l]⟩
  | dct => cases e
  | obj => cases e
  | err => cases e
def mTru (m : M) : Mo Bool := mb m fun d => ret (oTru d)
theorem vt_tru (h : PE X e (W C wx .bo 0 m)) (he : ∀ whole, isTrue e X.env whole = (do let v ← whole; standAt e.pos; holding [v] (truthy v)) := by intro _; rfl) (hK : X.K = C.K := by rfl) : PT X e (WT C wx (mTru m)) := by
  refine (pt_truth h he).wk fun σ H Q w => ?_
  obtain ⟨F, B, n, ds, S, h⟩ := w
  refine ⟨F, B, n, ds, S, (h.bind fun F1 H1 F2 H2 v d G r => r).mono fun x H1 ⟨F1, n1, d, G1, S1, ⟨A1, r1, f1⟩, h1⟩ => ?_⟩
  obtain ⟨b, e, q⟩ := h1.retE
  exact ⟨b, by rw [hK]; exact tru_of (rg_same S1.fh) r1 e, q b F1 H1 (GoC.refl S1.fh) S1 rfl⟩
/-! ### bools as values -/
def mAndV (ma mc : M) : M := mb ma fun d => match d with | .bl true => mc | .bl false => ret (some (.bl false)) | _ => ret none
def mOrV (ma mc : M) : M := mb ma fun d => match d with | .bl true => ret (some (.bl true)) | .bl false => mc | _ => ret none
theorem ve_one {op : BoolOp} (h : PE X a (W C wx g k m)) : PE X (.BoolOp op [a] pos) (W C wx g k m) := pe_one h

theorem ve_and {rest : List Expr} (ha : PE X a (W C wx .bo 0 ma)) (hb : PE X (.BoolOp .And (b :: rest) pos) (W C wx g k mc)) : PE X (.BoolOp .And (a :: b :: rest) pos) (W C wx g k (mAndV ma mc)) := by
  refine (pe_and ha hb).wk fun σ H Q w => ?_
  obtain ⟨F, B, n, ds, S, h⟩ := w
  refine ⟨F, B, n, ds, S, (h.bind fun F1 H1 F2 H2 v d G r => r.tr G).mono fun x H1 ⟨F1, n1, d, G1, S1, ⟨A1, r1, f1⟩, h1⟩ => ?_⟩
  cases d with
  | bl b =>
    refine ⟨b, r1.bl_, ?_⟩
    cases b with
    | true => rw [if_pos rfl]; exact ⟨F1, B, n1, ds, S1, h1⟩
    | false =>
      rw [if_neg Bool.false_ne_true]
      obtain ⟨d, e, q⟩ := h1.sc S1
      cases e
      exact q _ rfl
  | _ => obtain ⟨d, e, q⟩ := h1.sc S1; cases e
theorem ve_or {rest : List Expr} (ha : PE X a (W C wx .bo 0 ma)) (hb : PE X (.BoolOp .Or (b :: rest) pos) (W C wx g k mc)) : PE X (.BoolOp .Or (a :: b :: rest) pos) (W C wx g k (mOrV ma mc)) := by
  refine (pe_or ha hb).wk fun σ H Q w => ?_
  obtain ⟨F, B, n, ds, S, h⟩ := w
  refine ⟨F, B, n, ds, S, (h.bind fun F1 H1 F2 H2 v d G r => r.tr G).mono fun x H1 ⟨F1, n1, d, G1, S1, ⟨A1, r1, f1⟩, h1⟩ => ?_⟩
  cases d with
  | bl b =>
    refine ⟨b, r1.bl_, ?_⟩
    cases b with
    | false => rw [if_neg Bool.false_ne_true]; exact ⟨F1, B, n1, ds, S1, h1⟩
    | true =>
      rw [if_pos rfl]
      obtain ⟨d, e, q⟩ := h1.sc S1
      cases e
      exact q _ rfl
  | _ => obtain ⟨d, e, q⟩ := h1.sc S1; cases e
def oNotV : D → Option D
  | .bl b => some (.bl (!b))
  | _ => none
theorem ve_not (ha : PE X a (W C wx .bo 0 ma)) : PE X (.UnaryOp .Not a pos) (W C wx g k (m1 ma oNotV)) := by
  refine (pe_not ha).wk fun σ H Q w => ?_
  obtain ⟨F, B, n, ds, S, h⟩ := w
  refine ⟨F, B, n, ds, S, (h.bind fun F1 H1 F2 H2 v d G r => r.tr G).mono fun x H1 ⟨F1, n1, d, G1, S1, ⟨A1, r1, f1⟩, h1⟩ => ?_⟩
  obtain ⟨d', e, q⟩ := h1.sc S1
  cases d with
  | bl b => cases e; exact ⟨b, r1.bl_, q _ rfl⟩
  | _ => cases e
/-- a if t else b -/
def mIf (t : Mo Bool) (ma mc : M) : M := mb t fun b => match b with | true => ma | false => mc
theorem ve_if (hc : PT X c (WT C wx ta)) (ha : PE X a (W C wx g k ma)) (hb : PE X b (W C wx g k mc)) : PE X (.IfExp c a b pos) (W C wx g k (mIf ta ma mc)) := by
  refine (pe_ifExp hc ha hb).wk fun σ H Q w => ?_
  obtain ⟨F, B, n, ds, S, h⟩ := w
  refine ⟨F, B, n, ds, S, (h.bind fun F1 H1 F2 H2 v d G r => r.tr G).mono fun x H1 ⟨F1, n1, d, G1, S1, r1, h1⟩ => ?_⟩
  have r1 : x = d := r1
  subst r1
  cases x with
  | true => rw [if_pos rfl]; exact ⟨F1, B, n1, ds, S1, h1⟩
  | false => rw [if_neg Bool.false_ne_true]; exact ⟨F1, B, n1, ds, S1, h1⟩
/-- a op1 b op2 c -/
def m3c (ma mc md : M) (o o' : D → D → Option D) : M := mb ma fun x => mb mc fun y => mb (ret (o x y)) fun z => match z with | .bl true => mb md fun w => ret (o' y w) | .bl false => ret (some (.bl false)) | _ => ret none
theorem tChain_of {md : M} {r r' : R2} {o o' : D → D → Option D} (ho : OpS C.K r o) (ho' : OpS C.K r' o') {σ : L2.St} {H : Hp} {Q : VK} (w : W C wx g k (m3c ma mc md o o') σ H Q) : tChain r r' (W C wx .bo 0 ma) (W C wx .bo 0 mc) (W C wx .bo 0 md) σ H Q := by
  obtain ⟨F, B, n, ds, S, h⟩ := w
  refine ⟨F, B, n, ds, S, (h.bind fun F1 H1 F2 H2 v d G r => r.tr G).mono fun x H1 ⟨F1, n1, da, G1, S1, ⟨A1, r1, f1⟩, h1⟩ => ?_⟩
  refine ⟨F1, B, n1, ds, S1, (h1.bind fun F1 H1 F2 H2 v d G r => r.tr G).mono fun y H2 ⟨F2, n2, db, G2, S2, ⟨A2, r2, f2⟩, h2⟩ => ?_⟩
  have h3 := h2.bind (β := V) (R := RV C .bo 0) fun F1 H1 F2 H2 v d G r => r.tr G
  obtain ⟨dz, ez, qz⟩ := h3.retE
  obtain ⟨v, hv, hr⟩ := ho _ _ x y da db dz _ _ (rg_same S2.fh) (Rp.go0 (A' := fun _ => False) r1 G2) r2 ez
  refine hr _ ?_
  obtain ⟨F3, n3, d3, G3, S3, ⟨A3, r3, f3⟩, h4⟩ := qz v F2 H2 (GoC.refl S2.fh) S2 ⟨fun _ => False, Rp.of_sc hv, Fr.no⟩
  cases d3 with
  | bl kk =>
    refine ⟨kk, r3.bl_, ?_⟩
    cases kk with
    | true =>
      rw [if_pos rfl]
      refine ⟨F3, B, n3, ds, S3, (h4.bind fun F1 H1 F2 H2 v d G r => r.tr G).mono fun z H4 ⟨F4, n4, d4, G4, S4, ⟨A4, r4, f4⟩, h5⟩ => ?_⟩
      obtain ⟨d5, e5, q5⟩ := h5.sc S4
      obtain ⟨v5, hv5, hr5⟩ := ho' _ _ y z db d4 d5 _ _ (rg_same S4.fh) (Rp.go0 (A' := fun _ => False) r2 (G3.trans G4)) r4 e5
      exact hr5 Q (q5 v5 hv5)
    | false =>
      rw [if_neg Bool.false_ne_true]
      obtain ⟨d5, e5, q5⟩ := h4.sc S3
      cases e5
      exact q5 _ rfl
  | _ => obtain ⟨d5, e5, q5⟩ := h4.sc S3; cases e5
end
end GW

namespace GW
open PySem L2
section
variable {X : Cx} {C : Ctx} {wx : WX} {g : Rg} {k : Nat} {a b c e : Expr} {es : List Expr} {pos : Pos} {ma mc md m : M} {ta tc : Mo Bool}
theorem ve_chain {op op' : CmpOp} {r r' : R2} {o o' : D → D → Option D} (hr : OpR X (compareOp op) r) (ho : OpS C.K r o) (hr' : OpR X (compareOp op') r') (ho' : OpS C.K r' o') (ha : PE X a (W C wx .bo 0 ma)) (hb : PE X b (W C wx .bo 0 mc)) (hc : PE X c (W C wx .bo 0 md))
    (hm : lastMarks [op, op'] [b, c] = false := by with_unfolding_all rfl) : PE X (.Compare a [op, op'] [b, c] pos) (W C wx g k (m3c ma mc md o o')) :=
  (pe_chain hr hr' ha hb hc hm).wk fun σ H Q w => tChain_of ho ho' w
theorem vt_chain {op op' : CmpOp} {r r' : R2} {o o' : D → D → Option D} (hr : OpR X (compareOp op) r) (ho : OpS C.K r o) (hr' : OpR X (compareOp op') r') (ho' : OpS C.K r' o') (ha : PE X a (W C wx .bo 0 ma)) (hb : PE X b (W C wx .bo 0 mc)) (hc : PE X c (W C wx .bo 0 md))
    (hm : lastMarks [op, op'] [b, c] = false := by with_unfolding_all rfl) : PT X (.Compare a [op, op'] [b, c] pos) (WT C wx (mTest (m3c ma mc md o o'))) :=
  (pt_chain hr hr' ha hb hc hm).wk fun σ H Q w => tB_of (t := tChain r r' _ _ _) (fun _ _ _ z => tChain_of ho ho' z) w

/-! ### arguments -/
def mCons (m : M) (ms : Mo (List D)) : Mo (List D) := mb m fun d => mb ms fun ds => ret (some (d :: ds))
theorem RpL.nil {K : PySem.W.Frag} {G H : Hp} : RpL K G H [] [] := ⟨rfl, fun i v d h => by simp at h⟩
theorem RpL.cons {K : PySem.W.Frag} {G H : Hp} {v : V} {vs : List V} {d : D} {ds : List D} {A : AS} (r : Rp K G H 0 v d A) (h : RpL K G H vs ds) : RpL K G H (v :: vs) (d :: ds) := by
  refine ⟨by simp [h.1], fun i v' d' h1 h2 => ?_⟩
  cases i with
  | zero =>
    simp only [List.getElem?_cons_zero, Option.some.injEq] at h1 h2
    subst h1 h2
    exact r.z
  | succ i => exact h.2 i v' d' (by simpa using h1) (by simpa using h2)
theorem va_nil : PA X [] (WA C wx g (ret (some []))) := by
  refine pa_nil.wk fun σ H Q w => ?_
  obtain ⟨F, B, n, ds, S, h⟩ := w
  obtain ⟨d, e, q⟩ := h.retE
  cases e
  exact q [] F H (GoC.refl S.fh) S RpL.nil
theorem va_cons {ms : Mo (List D)} (ha : PE X e (W C wx g 0 m)) (hr : PA X es (WA C wx g ms)) (hs : starEach (e :: es) X.env = (false, eval e X.env) :: starEach es X.env := by rfl) : PA X (e :: es) (WA C wx g (mCons m ms)) := by
  refine (pa_cons ha hr hs).wk fun σ H Q w => ?_
  obtain ⟨F, B, n, ds, S, h⟩ := w
  refine ⟨F, B, n, ds, S, (h.bind fun F1 H1 F2 H2 v d G r => r).mono fun x H1 ⟨F1, n1, d, G1, S1, ⟨A1, r1, f1⟩, h1⟩ => ?_⟩
  refine ⟨F1, B, n1, ds, S1, (h1.bind fun F1 H1 F2 H2 v d G r => r).mono fun xs H2 ⟨F2, n2, d2, G2, S2, r2, h2⟩ => ?_⟩
  obtain ⟨d3, e3, q⟩ := h2.retE
  cases e3
  exact q (x :: xs) F2 H2 (GoC.refl S2.fh) S2 (RpL.cons (r1.go0 (A' := fun _ => False) G2) r2)

/-! ### displays -/
theorem rg_self {q : Option Addr} {F H : Hp} {p : Addr} {o : HO} (hq : q ≠ some p) : rg q .bo F (upd H p o) p = some o := by
  show (if q = some p then none else upd H p o p) = some o
  rw [if_neg hq, upd_same]
/-- a new object of one's own -/
theorem Sim.newO {F H : Hp} {B : AS} {σ : L2.St} {n : Int} {ds : DS} {p : Addr} {o : HO} (S : Sim C F B σ H n ds) (hp : H p = none) : GoC C.q F H F (upd H p o) ∧ Sim C F B σ (upd H p o) n ds :=
  ⟨GoC.newO S.fh hp, S.go0 (GoC.newO S.fh hp)⟩
theorem Sim.nqp {F H : Hp} {B : AS} {σ : L2.St} {n : Int} {ds : DS} {p : Addr} (S : Sim C F B σ H n ds) (hp : H p = none) : C.q ≠ some p := fun e => S.nq e hp
theorem Fr.one {F H : Hp} {p : Addr} {o : HO} (fh : Same F H) (hp : H p = none) (ho : Mk o = true) : Fr F H (upd H p o) (fun a => a = p) := fun a ha => by
  subst ha
  refine ⟨hp, ?_, o, upd_same, ho⟩
  cases e : F a with
  | none => exact Eq.refl _
  | some u => have := fh a u e; rw [hp] at this; cases this
def mTup (ms : Mo (List D)) : M := mb ms fun ds => ret (if ds.length ≤ 16777216 then some (.tup ds) else none)
theorem ve_tup {x1 : Nat} {ms : Mo (List D)} (h : PA X es (WA C wx g ms)) : PE X (.Tuple es x1 pos) (W C wx g k (mTup ms)) := by
  refine (pe_tup h).wk fun σ H Q w => ?_
  obtain ⟨F, B, n, ds, S, h⟩ := w
  refine ⟨F, B, n, ds, S, (h.bind fun F1 H1 F2 H2 v d G r => r.tr G).mono fun xs H1 ⟨F1, n1, d, G1, S1, r1, h1⟩ => ?_⟩
  obtain ⟨d2, e2, q⟩ := h1.retE
  split at e2
  · rename_i hl
    cases e2
    refine ⟨by rw [sizeLine_eq, r1.1]; exact hl, fun p hp => ?_⟩
    obtain ⟨G2, S2⟩ := S1.newO (o := .tup xs) hp
    refine q (.ref p) F1 _ G2 S2 (RV_of0 (.tup (.inl (.inl upd_same)) r1.1 fun i v d a b => ?_))
    exact Rp.go0 (r1.2 i v d a b) G2
  · cases e2
def mLst (ms : Mo (List D)) : M := mb ms fun ds => ret (if ds.length ≤ 16777216 then some (.lst ds) else none)
/-- a list display: one's own | to be read now -/
theorem ve_lst1 {ms : Mo (List D)} (h : PA X es (WA C wx .fz ms)) : PE X (.List es pos) (W C wx .fz 1 (mLst ms)) := by
  refine (pe_lst h).wk fun σ H Q w => ?_
  obtain ⟨F, B, n, ds, S, h⟩ := w
  refine ⟨F, B, n, ds, S, (h.bind fun F1 H1 F2 H2 v d G r => r.tr G).mono fun xs H1 ⟨F1, n1, d, G1, S1, r1, h1⟩ => ?_⟩
  obtain ⟨d2, e2, q⟩ := h1.retE
  split at e2
  · rename_i hl
    cases e2
    refine ⟨by rw [sizeLine_eq, r1.1]; exact hl, fun p hp => ?_⟩
    obtain ⟨G2, S2⟩ := S1.newO (o := .lst xs) hp
    refine q (.ref p) F1 _ G2 S2 ⟨fun a => a = p, .lstO (fun _ _ => False) upd_same rfl r1.1 (fun i v d a b => ?_) (fun _ _ h => h.elim) (fun _ _ _ h => h.elim), Fr.one S1.fh hp rfl⟩
    exact Rp.go0 (g := .fz) (r1.2 i v d a b) G2
  · cases e2
theorem ve_lstb {ms : Mo (List D)} (h : PA X es (WA C wx .bo ms)) : PE X (.List es pos) (W C wx .bo 0 (mLst ms)) := by
  refine (pe_lst h).wk fun σ H Q w => ?_
  obtain ⟨F, B, n, ds, S, h⟩ := w
  refine ⟨F, B, n, ds, S, (h.bind fun F1 H1 F2 H2 v d G r => r.tr G).mono fun xs H1 ⟨F1, n1, d, G1, S1, r1, h1⟩ => ?_⟩
  obtain ⟨d2, e2, q⟩ := h1.retE
  split at e2
  · rename_i hl
    cases e2
    refine ⟨by rw [sizeLine_eq, r1.1]; exact hl, fun p hp => ?_⟩
    obtain ⟨G2, S2⟩ := S1.newO (o := .lst xs) hp
    refine q (.ref p) F1 _ G2 S2 (RV_of0 (.lst (.inl (.inl (rg_self (S1.nqp hp)))) r1.1 fun i v d a b => ?_))
    exact Rp.go0 (g := .bo) (r1.2 i v d a b) G2
  · cases e2

/-! ### subscripts -/
/-- an operation whose answer is a part of the first thing -/
def OpG (K : PySem.W.Frag) (r : R2) (o : D → D → Option D) : Prop := ∀ (G G2 H : Hp) (x y : V) (a b d : D) (A A' : AS), Same G H → Rp K G H 0 x a A → Rp K G2 H 0 y b A' → o a b = some d → ∃ v, Rp K G H 0 v d (fun _ => False) ∧ ∀ Q : VK, Q v H → r x y H Q
theorem tOpG_of {r : R2} {o : D → D → Option D} (ho : OpG C.K r o) {σ : L2.St} {H : Hp} {Q : VK} (w : W C wx g 0 (m2 ma mc o) σ H Q) : tOp r (W C wx g 0 ma) (W C wx .bo 0 mc) σ H Q := by
  obtain ⟨F, B, n, ds, S, h⟩ := w
  refine ⟨F, B, n, ds, S, (h.bind fun F1 H1 F2 H2 v d G r => r.tr G).mono fun x H1 ⟨F1, n1, da, G1, S1, ⟨A1, r1, f1⟩, h1⟩ => ?_⟩
  refine ⟨F1, B, n1, ds, S1, (h1.bind fun F1 H1 F2 H2 v d G r => r.tr G).mono fun y H2 ⟨F2, n2, db, G2, S2, ⟨A2, r2, f2⟩, h2⟩ => ?_⟩
  obtain ⟨d, e, q⟩ := h2.retE
  obtain ⟨v, hv, hr⟩ := ho _ _ _ x y da db d _ _ (rg_same S2.fh) (Rp.go0 (g := g) (A' := fun _ => False) r1 G2) r2 e
  exact hr Q (q v F2 H2 (GoC.refl S2.fh) S2 (RV_of0 hv))
def oIx : D → D → Option D
  | .lst ds, .int i => atI ds i
  | .tup ds, .int i => atI ds i
  | .str x, .int i => if x.length ≤ sizeLine then (atI x.cps.toList i).map fun c => .str ⟨#[c]⟩ else none
  | _, _ => none
theorem atI_pair {vs : List V} {ds : List D} (h : vs.length = ds.length) {i : Int} {d : D} (e : atI ds i = some d) : ∃ (j : Nat) (v : V), atI vs i = some v ∧ vs[j]? = some v ∧ ds[j]? = some d := by
  unfold atI at e ⊢
  rw [h]
  cases hj : ixN ds.length i with
  | none => rw [hj] at e; cases e
  | some j =>
    rw [hj] at e
    have e' : ds[j]? = some d := e
    have hlt : j < ds.length := (List.getElem?_eq_some_iff.mp e').1
    exact ⟨j, vs[j]'(by omega), by show vs[j]? = _; simp [h, hlt], by simp [h, hlt], e'⟩
theorem og_ix {K : PySem.W.Frag} : OpG K (rIx K) oIx := by
  intro G G2 H x y a b d A A' hs ra rb e
  cases b with
  | int i =>
    have ey := rb.int_
    subst ey
    cases ra with
    | lst h l c =>
      obtain ⟨j, v, h1, h2, h3⟩ := atI_pair l e
      exact ⟨v, (c j v d h2 h3).z, fun Q q => .inl ⟨_, _, _, _, rfl, rfl, sqL_mono h hs, h1, q⟩⟩
    | tup h l c =>
      obtain ⟨j, v, h1, h2, h3⟩ := atI_pair l e
      exact ⟨v, (c j v d h2 h3).z, fun Q q => .inr (.inl ⟨_, _, _, _, rfl, rfl, h, h1, q⟩)⟩
    | str =>
      rename_i x
      simp only [oIx] at e
      split at e
      · rename_i hl
        cases hc : atI x.cps.toList i with
        | none => rw [hc] at e; cases e
        | some cc =>
          rw [hc] at e
          cases e
          exact ⟨_, .str, fun Q q => .inr (.inr ⟨_, _, _, rfl, rfl, hl, hc, q⟩)⟩
      · cases e
    | non => cases e
    | bl => cases e
    | int => cases e
    | dct => cases e
    | obj => cases e
    | err => cases e
  | _ => cases a <;> cases e
theorem ve_ix (ha : PE X a (W C wx g 0 ma)) (hb : PE X b (W C wx .bo 0 mc)) (hs : PlainIx b := by intro _ _; rfl) (hK : X.K = C.K := by rfl) : PE X (.Subscript a b pos) (W C wx g 0 (m2 ma mc oIx)) :=
  (pe_ix (by rw [← hK]; exact ix_seq) ha hb hs).wk fun σ H Q w => tOpG_of og_ix w
/-! ### d[k] of a dict -/
def keyD : D → Option Key
  | .int i => some (.inl i)
  | .str x => some (.inr x)
  | _ => none
def valD (kvs : List (Key × D)) (k : Key) : Option D := (kvs.find? fun kv => decide (kv.1 = k)).map (·.2)
def oDGet (a b : D) : Option D := match a, keyD b with
  | .dct kvs, some k => valD kvs k
  | _, _ => none
theorem val_pair {kvs : List (Key × V)} {kds : List (Key × D)} (h : kvs.map (·.1) = kds.map (·.1)) {k : Key} {d : D} (e : valD kds k = some d) : ∃ (j : Nat) (v : V), valV kvs k = some v ∧ (kvs.map (·.2))[j]? = some v ∧ (kds.map (·.2))[j]? = some d := by
  induction kds generalizing kvs with
  | nil => cases e
  | cons p r ih =>
    cases kvs with
    | nil => cases h
    | cons p' r' =>
      simp only [List.map_cons, List.cons.injEq] at h
      by_cases hk : p.1 = k
      · have e' : p.2 = d := by simp [valD, List.find?_cons, hk] at e; exact e
        refine ⟨0, p'.2, valV_pos (h.1.trans hk), by simp, by simp [e']⟩
      · have e' : valD r k = some d := by simp [valD, List.find?_cons, hk] at e ⊢; exact e
        obtain ⟨j, v, h1, h2, h3⟩ := ih h.2 e'
        exact ⟨j + 1, v, by rw [valV_neg (by rw [h.1]; exact hk)]; exact h1, by simpa using h2, by simpa using h3⟩
theorem key_rel {K : PySem.W.Frag} {G H : Hp} {y : V} {b : D} {A : AS} {k : Key} (r : Rp K G H 0 y b A) (e : keyD b = some k) : y = kV k := by
  cases b <;> simp [keyD] at e
  · subst e; exact r.int_
  · subst e; exact r.str_
theorem ve_dget (hu : X.A.units + 1 < cLine) (ha : PE X a (W C wx g 0 ma)) (hb : PE X b (W C wx .bo 0 mc)) (hs : NoSl b := by intro _ _; rfl) : PE X (.Subscript a b pos) (W C wx g 0 (m2 ma mc oDGet)) := by
  refine (pe_dget hu ha hb hs).wk fun σ H Q w => ?_
  obtain ⟨F, B, n, ds, S, h⟩ := w
  refine ⟨F, B, n, ds, S, (h.bind fun F1 H1 F2 H2 v d G r => r.tr G).mono fun x H1 ⟨F1, n1, da, G1, S1, ⟨A1, r1, f1⟩, h1⟩ => ?_⟩
  refine ⟨F1, B, n1, ds, S1, (h1.bind fun F1 H1 F2 H2 v d G r => r.tr G).mono fun y H2 ⟨F2, n2, db, G2, S2, ⟨A2, r2, f2⟩, h2⟩ => ?_⟩
  obtain ⟨d, e, q⟩ := h2.retE
  have r1' := Rp.go0 (g := g) (A' := fun _ => False) r1 G2
  cases hk : keyD db with
  | none => cases da <;> simp [oDGet, hk] at e
  | some kk =>
    cases r1' with
    | dct h l c =>
      simp only [oDGet, hk] at e
      obtain ⟨j, v, h1, h3, h4⟩ := val_pair l e
      have hy := key_rel r2 hk
      subst hy
      exact ⟨_, v, rfl, .inl ⟨_, kk, .inl (rg_same S2.fh _ _ h), rfl, h1.symm⟩, q v F2 H2 (GoC.refl S2.fh) S2 (RV_of0 (c j v d h3 h4))⟩
    | _ => simp [oDGet] at e
/-! ### attributes -/
def fldD (fs : List (Str × D)) (f : Str) : Option D := fs.lookup f
def oFld (C0 : Addr) (f : Str) : D → Option D
  | .obj C1 fs => if C1 = C0 then fs.lookup f else none
  | _ => none
theorem lookup_pair {fs : List (Str × V)} {fds : List (Str × D)} (h : fs.map (·.1) = fds.map (·.1)) {f : Str} {d : D} (e : fds.lookup f = some d) : ∃ (j : Nat) (v : V), fs.lookup f = some v ∧ (fs.map (·.2))[j]? = some v ∧ (fds.map (·.2))[j]? = some d := by
  induction fds generalizing fs with
  | nil => cases e
  | cons p r ih =>
    cases fs with
    | nil => cases h
    | cons p' r' =>
      obtain ⟨pk, pd⟩ := p
      obtain ⟨pk', pv⟩ := p'
      simp only [List.map_cons, List.cons.injEq] at h
      obtain ⟨h1, h2⟩ := h
      subst h1
      by_cases hk : f = pk'
      · subst hk
        rw [List.lookup_cons_self] at e
        cases e
        exact ⟨0, pv, List.lookup_cons_self, by simp, by simp⟩
      · have hb : (f == pk') = false := by simpa using hk
        rw [List.lookup_cons, hb] at e
        obtain ⟨j, v, h1, h3, h4⟩ := ih h2 e
        exact ⟨j + 1, v, by rw [List.lookup_cons, hb]; exact h1, by simpa using h3, by simpa using h4⟩
theorem ve_fld {C0 : Addr} {f : Str} (hc : Cls C.K C0) (hn : NoAttr C.K C0 f) (ha : PE X a (W C wx g 0 ma)) (hb : attributeBase a f X.env (eval a X.env) = eval a X.env := by rfl) (hK : X.K = C.K := by rfl) : PE X (.Attribute a f pos) (W C wx g 0 (m1 ma (oFld C0 f))) := by
  refine (pe_fld ha hb).wk fun σ H Q w => ?_
  obtain ⟨F, B, n, ds, S, h⟩ := w
  refine ⟨F, B, n, ds, S, (h.bind fun F1 H1 F2 H2 v d G r => r.tr G).mono fun x H1 ⟨F1, n1, da, G1, S1, ⟨A1, r1, f1⟩, h1⟩ => ?_⟩
  obtain ⟨d, e, q⟩ := h1.retE
  cases r1 with
  | obj hh l c =>
    simp only [oFld] at e
    split at e
    · rename_i hC
      subst hC
      obtain ⟨j, v, h2, h3, h4⟩ := lookup_pair l e
      rw [hK]
      exact ⟨_, _, _, _, v, rfl, rg_same S1.fh _ _ hh, hc, hn, h2, q v F1 H1 (GoC.refl S1.fh) S1 (RV_of0 (c j v d h3 h4).z)⟩
    · cases e
  | _ => cases e
/-! ### slices -/
def mNoPart : Mo (Option Int) := ret (some none)
def mPart (m : M) : Mo (Option Int) := mb m fun d => ret (match d with | .int i => some (some i) | _ => none)
abbrev WO (C : Ctx) (wx : WX) (m : Mo (Option Int)) : TO := WW C wx (fun _ _ _ v d => v = d) m
theorem _root_.L2.PO.wk {e : Option Expr} {t t' : TO} (h : PO X e t) (w : ∀ σ H Q, t' σ H Q → t σ H Q) : PO X e t' := ⟨fun pins s σ H Q I q => h.run pins s σ H Q I (w _ _ _ q)⟩
theorem vo_none : PO X none (WO C wx mNoPart) := po_none.wk fun σ H Q w => by
  obtain ⟨F, B, n, ds, S, h⟩ := w
  obtain ⟨d, e, q⟩ := h.retE
  cases e
  exact q none F H (GoC.refl S.fh) S rfl
theorem vo_some (h : PE X e (W C wx .bo 0 m)) : PO X (some e) (WO C wx (mPart m)) := (po_some h).wk fun σ H Q w => by
  obtain ⟨F, B, n, ds, S, h⟩ := w
  refine ⟨F, B, n, ds, S, (h.bind fun F1 H1 F2 H2 v d G r => r).mono fun x H1 ⟨F1, n1, d, G1, S1, ⟨A1, r1, f1⟩, h1⟩ => ?_⟩
  obtain ⟨o, e, q⟩ := h1.retE
  cases d with
  | int i => cases e; exact ⟨i, r1.int_, q _ F1 H1 (GoC.refl S1.fh) S1 rfl⟩
  | _ => cases e
def cutD (ds : List D) (lo hi : Option Int) : List D := (ds.drop (HT.sIx ds.length 0 lo)).take (HT.sIx ds.length ds.length hi - HT.sIx ds.length 0 lo)
def oSl (lo hi : Option Int) : D → Option D
  | .lst ds => some (.lst (cutD ds lo hi))
  | .tup ds => if HT.sIx ds.length 0 lo = 0 ∧ HT.sIx ds.length ds.length hi = ds.length then none else some (.tup (cutD ds lo hi))
  | .str x => if x.length ≤ sizeLine then some (.str (cutS x lo hi)) else none
  | _ => none
def mSl (m : M) (ml mh : Mo (Option Int)) : M := mb m fun d => mb ml fun lo => mb mh fun hi => ret (oSl lo hi d)
def rSl (K : PySem.W.Frag) : V → Option Int → Option Int → Hp → VK → Prop := fun x lo hi H Q => rSlL K x lo hi H Q ∨ (fun x lo hi H Q => rSlT K x lo hi H Q ∨ rSlS x lo hi H Q : V → Option Int → Option Int → Hp → VK → Prop) x lo hi H Q
theorem sl_all : SlR X (rSl X.K) := sl_list.or (sl_tup.or sl_str)
theorem cut_pair {K : PySem.W.Frag} {G H G' H' : Hp} {vs : List V} {ds : List D} (l : vs.length = ds.length) (c : ∀ (i : Nat) v d, vs[i]? = some v → ds[i]? = some d → Rp K G' H' 0 v d (fun _ => False)) (lo hi : Option Int) :
    (cutV vs lo hi).length = (cutD ds lo hi).length ∧ ∀ (i : Nat) v d, (cutV vs lo hi)[i]? = some v → (cutD ds lo hi)[i]? = some d → Rp K G' H' 0 v d (fun _ => False) := by
  unfold cutV cutD
  rw [l]
  refine ⟨by rw [List.length_take, List.length_take, List.length_drop, List.length_drop, l], fun i v d h1 h2 => ?_⟩
  rw [List.getElem?_take] at h1 h2
  split at h1
  · rename_i hi
    rw [if_pos hi] at h2
    rw [List.getElem?_drop] at h1 h2
    exact c _ v d h1 h2
  · cases h1
theorem tSl_of {ml mh : Mo (Option Int)} {Rr : Hp → Hp → Hp → V → D → Prop} (htr : ∀ F H F1 H1 F2 H2 v d, GoC C.q F H F1 H1 → Rr H1 F2 H2 v d → Rr H F2 H2 v d)
    (hend : ∀ F B σ H n ds x d d' lo hi (Q : VK), Sim C F B σ H n ds → Rp C.K (rg C.q g F H) H 0 x d (fun _ => False) → oSl lo hi d = some d' → (∀ v F' H', GoC C.q F H F' H' → Sim C F' B σ H' n ds → Rr H F' H' v d' → Q v H') → rSl C.K x lo hi H Q)
    {σ : L2.St} {H : Hp} {Q : VK} (w : WW C wx Rr (mSl m ml mh) σ H Q) : tSl (rSl C.K) (W C wx g 0 m) (WO C wx ml) (WO C wx mh) σ H Q := by
  obtain ⟨F, B, n, ds, S, h⟩ := w
  refine ⟨F, B, n, ds, S, (h.bind fun F1 H1 F2 H2 v d G r => htr _ _ _ _ _ _ _ _ G r).mono fun x H1 ⟨F1, n1, d, G1, S1, ⟨A1, r1, f1⟩, h1⟩ => ?_⟩
  refine ⟨F1, B, n1, ds, S1, (h1.bind fun F1 H1 F2 H2 v d G r => htr _ _ _ _ _ _ _ _ G r).mono fun lo H2 ⟨F2, n2, lo', G2, S2, e2, h2⟩ => ?_⟩
  have e2 : lo = lo' := e2
  subst e2
  refine ⟨F2, B, n2, ds, S2, (h2.bind fun F1 H1 F2 H2 v d G r => htr _ _ _ _ _ _ _ _ G r).mono fun hi H3 ⟨F3, n3, hi', G3, S3, e3, h3⟩ => ?_⟩
  have e3 : hi = hi' := e3
  subst e3
  obtain ⟨d4, e4, q⟩ := h3.retE
  exact hend F3 B σ H3 n3 ds x d d4 lo hi Q S3 (Rp.go0 (g := g) r1 (G2.trans G3)) e4 q
/-- a[lo:hi]: a new thing of one's own | to be read now -/
theorem ve_sl1 {lo hi : Option Expr} {ml mh : Mo (Option Int)} {p2 : Pos} (ha : PE X a (W C wx .fz 0 m)) (hl : PO X lo (WO C wx ml)) (hh : PO X hi (WO C wx mh)) (hK : X.K = C.K := by rfl) : PE X (.Subscript a (.Slice lo hi none p2) pos) (W C wx .fz 1 (mSl m ml mh)) := by
  refine (pe_slice sl_all ha hl hh).wk fun σ H Q w => ?_
  rw [hK]
  refine tSl_of (g := .fz) (fun F H F1 H1 F2 H2 v d G r => r.tr G) (fun F B σ H n ds x d d' lo hi Q S r e q => ?_) w
  cases r with
  | lst h l c =>
    cases e
    refine .inl ⟨_, _, rfl, sqL_mono h S.fh, fun p hp => ?_⟩
    obtain ⟨G2, S2⟩ := S.newO (o := .lst (cutV _ lo hi)) hp
    obtain ⟨l2, c2⟩ := cut_pair (G := F) (H := H) l (fun i v d a b => Rp.go0 (g := .fz) (c i v d a b) G2) lo hi
    exact q (.ref p) F _ G2 S2 ⟨fun a => a = p, .lstO (fun _ _ => False) upd_same rfl l2 c2 (fun _ _ h => h.elim) (fun _ _ _ h => h.elim), Fr.one S.fh hp rfl⟩
  | tup h l c =>
    simp only [oSl] at e
    split at e
    · cases e
    · rename_i hn
      cases e
      refine .inr (.inl ⟨_, _, rfl, h, by rw [l]; exact hn, fun p hp => ?_⟩)
      obtain ⟨G2, S2⟩ := S.newO (o := .tup (cutV _ lo hi)) hp
      obtain ⟨l2, c2⟩ := cut_pair (G := F) (H := H) l (fun i v d a b => Rp.go0 (g := .fz) (c i v d a b) G2) lo hi
      exact q (.ref p) F _ G2 S2 ⟨fun _ => False, .tup (.inl (.inl upd_same)) l2 c2, Fr.no⟩
  | str =>
    simp only [oSl] at e
    split at e
    · rename_i hz
      cases e
      exact .inr (.inr ⟨_, rfl, hz, q _ F H (GoC.refl S.fh) S ⟨fun _ => False, .str, Fr.no⟩⟩)
    · cases e
  | _ => cases e
theorem ve_slb {lo hi : Option Expr} {ml mh : Mo (Option Int)} {p2 : Pos} (ha : PE X a (W C wx .bo 0 m)) (hl : PO X lo (WO C wx ml)) (hh : PO X hi (WO C wx mh)) (hK : X.K = C.K := by rfl) : PE X (.Subscript a (.Slice lo hi none p2) pos) (W C wx .bo 0 (mSl m ml mh)) := by
  refine (pe_slice sl_all ha hl hh).wk fun σ H Q w => ?_
  rw [hK]
  refine tSl_of (g := .bo) (fun F H F1 H1 F2 H2 v d G r => r.tr G) (fun F B σ H n ds x d d' lo hi Q S r e q => ?_) w
  cases r with
  | lst h l c =>
    cases e
    refine .inl ⟨_, _, rfl, sqL_mono h (rg_same S.fh), fun p hp => ?_⟩
    obtain ⟨G2, S2⟩ := S.newO (o := .lst (cutV _ lo hi)) hp
    obtain ⟨l2, c2⟩ := cut_pair (G := F) (H := H) l (fun i v d a b => Rp.go0 (g := .bo) (c i v d a b) G2) lo hi
    exact q (.ref p) F _ G2 S2 (RV_of0 (.lst (.inl (.inl (rg_self (S.nqp hp)))) l2 c2))
  | tup h l c =>
    simp only [oSl] at e
    split at e
    · cases e
    · rename_i hn
      cases e
      refine .inr (.inl ⟨_, _, rfl, h, by rw [l]; exact hn, fun p hp => ?_⟩)
      obtain ⟨G2, S2⟩ := S.newO (o := .tup (cutV _ lo hi)) hp
      obtain ⟨l2, c2⟩ := cut_pair (G := F) (H := H) l (fun i v d a b => Rp.go0 (g := .bo) (c i v d a b) G2) lo hi
      exact q (.ref p) F _ G2 S2 (RV_of0 (.tup (.inl (.inl upd_same)) l2 c2))
  | str =>
    simp only [oSl] at e
    split at e
    · rename_i hz
      cases e
      exact .inr (.inr ⟨_, rfl, hz, q _ F H (GoC.refl S.fh) S (RV_of0 .str)⟩)
    · cases e
  | _ => cases e
end
end GW

namespace GW
open PySem L2
section
variable {X : Cx} {C : Ctx} {wx : WX} {g : Rg} {k : Nat} {a b c e : Expr} {es : List Expr} {p pos : Pos} {x : Str} {bid bT : String} {ms : Mo (List D)} {m : M}
/-! ### built-in functions that give a scalar -/
def mCB (ms : Mo (List D)) (o : List D → Option D) : M := mb ms fun ds => ret (o ds)
def CalS (K : PySem.W.Frag) (r : List V → Hp → VK → Prop) (o : List D → Option D) : Prop := ∀ (G H : Hp) (vs : List V) (ds : List D) (d : D), Same G H → RpL K G H vs ds → o ds = some d → ∃ v, scV d = some v ∧ ∀ Q : VK, Q v H → r vs H Q
theorem tCB_of {r : List V → Hp → VK → Prop} {o : List D → Option D} (ho : CalS C.K r o) {σ : L2.St} {H : Hp} {Q : VK} (w : W C wx g k (mCB ms o) σ H Q) : tCB r (WA C wx .bo ms) σ H Q := by
  obtain ⟨F, B, n, ds, S, h⟩ := w
  refine ⟨F, B, n, ds, S, (h.bind fun F1 H1 F2 H2 v d G r => r.tr G).mono fun xs H1 ⟨F1, n1, da, G1, S1, r1, h1⟩ => ?_⟩
  obtain ⟨d, e, q⟩ := h1.sc S1
  obtain ⟨v, hv, hr⟩ := ho _ _ xs da d (rg_same S1.fh) r1 e
  exact hr Q (q v hv)
theorem ve_callB {r : List V → Hp → VK → Prop} {o : List D → Option D} (hc : CallR X (.builtin bid) r) (ho : CalS C.K r o) (hm : X.mg x = none) (hv : bootBuiltins x = some (.builtin bid)) (ha : PA X (e :: es) (WA C wx .bo ms)) (hg : Gl X x := by rfl) (hn : x ≠ "__name__" := by decide) (hdb : (x == ("__debug__" : Str)) = false := by decide)
    (hs : starEach (e :: es) X.env = (false, eval e X.env) :: starEach es X.env := by rfl) (hpl : (backTo pos (starEach es X.env)).any (·.1) = false := by rfl) : PE X (.Call (.Name x p) (e :: es) [] pos) (W C wx g k (mCB ms o)) :=
  (pe_callB hc hg hm hv ha hn hdb hs hpl).wk fun σ H Q w => tCB_of ho w
theorem ve_callTy {r : List V → Hp → VK → Prop} {o : List D → Option D} (hc : CallR X (.type bT) r) (ho : CalS C.K r o) (hm : X.mg x = none) (hv : bootBuiltins x = some (.type bT)) (ha : PA X (e :: es) (WA C wx .bo ms)) (hg : Gl X x := by rfl) (hn : x ≠ "__name__" := by decide) (hdb : (x == ("__debug__" : Str)) = false := by decide)
    (hs : starEach (e :: es) X.env = (false, eval e X.env) :: starEach es X.env := by rfl) (hpl : (backTo pos (starEach es X.env)).any (·.1) = false := by rfl) : PE X (.Call (.Name x p) (e :: es) [] pos) (W C wx g k (mCB ms o)) :=
  (pe_callTy hc hg hm hv ha hn hdb hs hpl).wk fun σ H Q w => tCB_of ho w
/-- len -/
def oLen : List D → Option D
  | [.str x] => if x.length ≤ sizeLine then some (.int x.length) else none
  | [.tup ds] => some (.int ds.length)
  | [.lst ds] => some (.int ds.length)
  | [.dct ds] => some (.int ds.length)
  | _ => none
def rLenA (K : PySem.W.Frag) : List V → Hp → VK → Prop := fun xs H Q => (∃ x n, xs = [x] ∧ LenV K x H n ∧ Q (.int n) H) ∨ (∃ a kvs, xs = [V.ref a] ∧ H a = some (.dK kvs) ∧ Q (.int kvs.length) H)
theorem cr_lenA : CallR X (.builtin "len") (rLenA X.K) := call_len.or call_lenD
theorem RpL.one {K : PySem.W.Frag} {G H : Hp} {vs : List V} {d : D} (r : RpL K G H vs [d]) : ∃ v, vs = [v] ∧ Rp K G H 0 v d (fun _ => False) := by
  obtain ⟨l, c⟩ := r
  match vs, l with
  | [v], _ => exact ⟨v, rfl, c 0 v d rfl rfl⟩
theorem RpL.two {K : PySem.W.Frag} {G H : Hp} {vs : List V} {d d' : D} (r : RpL K G H vs [d, d']) : ∃ v v', vs = [v, v'] ∧ Rp K G H 0 v d (fun _ => False) ∧ Rp K G H 0 v' d' (fun _ => False) := by
  obtain ⟨l, c⟩ := r
  match vs, l with
  | [v, v'], _ => exact ⟨v, v', rfl, c 0 v d rfl rfl, c 1 v' d' rfl rfl⟩
theorem cs_len {K : PySem.W.Frag} : CalS K (rLenA K) oLen := by
  intro G H vs ds d hs r0 e
  unfold oLen at e
  split at e
  · obtain ⟨v, rfl, r⟩ := r0.one
    split at e
    · rename_i hl; cases e
      exact ⟨_, rfl, fun Q q => .inl ⟨_, _, rfl, by rw [r.str_]; exact ⟨hl, rfl⟩, q⟩⟩
    · cases e
  · obtain ⟨v, rfl, r⟩ := r0.one
    cases e
    cases r with
    | tup h l c => exact ⟨_, rfl, fun Q q => .inl ⟨_, _, rfl, .inr ⟨_, h, l.symm⟩, q⟩⟩
  · obtain ⟨v, rfl, r⟩ := r0.one
    cases e
    cases r with
    | lst h l c => exact ⟨_, rfl, fun Q q => .inl ⟨_, _, rfl, .inl ⟨_, sqL_mono h hs, l.symm⟩, q⟩⟩
  · obtain ⟨v, rfl, r⟩ := r0.one
    cases e
    cases r with
    | dct h l c =>
      refine ⟨_, rfl, fun Q q => .inr ⟨_, _, rfl, hs _ _ h, ?_⟩⟩
      have := congrArg List.length l
      rw [List.length_map, List.length_map] at this
      rw [this]; exact q
  · cases e
theorem ve_len (hm : X.mg "len" = none) (ha : PA X [e] (WA C wx .bo ms)) (hg : Gl X "len" := by rfl) (hs : starEach [e] X.env = (false, eval e X.env) :: starEach [] X.env := by rfl) (hpl : (backTo pos (starEach [] X.env)).any (·.1) = false := by rfl) (hK : X.K = C.K := by rfl) : PE X (.Call (.Name "len" p) [e] [] pos) (W C wx g k (mCB ms oLen)) :=
  ve_callB (r := rLenA C.K) (by rw [← hK]; exact cr_lenA) cs_len hm PySem.boot_len ha hg (hs := hs) (hpl := hpl)
/-- abs, ord, int -/
def oAbs : List D → Option D
  | [.int i] => some (.int (if i < 0 then -i else i))
  | _ => none
theorem cs_abs {K : PySem.W.Frag} : CalS K (fun xs H Q => ∃ i, xs = [.int i] ∧ Q (.int (if i < 0 then -i else i)) H) oAbs := by
  intro G H vs ds d hs r0 e
  unfold oAbs at e
  split at e
  · obtain ⟨v, rfl, r⟩ := r0.one
    cases e
    exact ⟨_, rfl, fun Q q => ⟨_, by rw [r.int_], q⟩⟩
  · cases e
theorem ve_abs (hm : X.mg "abs" = none) (ha : PA X [e] (WA C wx .bo ms)) (hg : Gl X "abs" := by rfl) (hs : starEach [e] X.env = (false, eval e X.env) :: starEach [] X.env := by rfl) (hpl : (backTo pos (starEach [] X.env)).any (·.1) = false := by rfl) : PE X (.Call (.Name "abs" p) [e] [] pos) (W C wx g k (mCB ms oAbs)) :=
  ve_callB call_abs cs_abs hm PyProof.Rows.boot_abs ha hg (hs := hs) (hpl := hpl)
def oOrd : List D → Option D
  | [.str x] => if x.length = 1 then some (.int (x.cps.getD 0 0 : Nat)) else none
  | _ => none
theorem cs_ord {K : PySem.W.Frag} : CalS K (fun xs H Q => ∃ x, xs = [.str x] ∧ x.length = 1 ∧ Q (.int (x.cps.getD 0 0 : Nat)) H) oOrd := by
  intro G H vs ds d hs r0 e
  unfold oOrd at e
  split at e
  · obtain ⟨v, rfl, r⟩ := r0.one
    split at e
    · rename_i hl; cases e
      exact ⟨_, rfl, fun Q q => ⟨_, by rw [r.str_], hl, q⟩⟩
    · cases e
  · cases e
theorem ve_ord (hm : X.mg "ord" = none) (ha : PA X [e] (WA C wx .bo ms)) (hg : Gl X "ord" := by rfl) (hs : starEach [e] X.env = (false, eval e X.env) :: starEach [] X.env := by rfl) (hpl : (backTo pos (starEach [] X.env)).any (·.1) = false := by rfl) : PE X (.Call (.Name "ord" p) [e] [] pos) (W C wx g k (mCB ms oOrd)) :=
  ve_callB call_ord cs_ord hm PyProof.Rows.boot_ord ha hg (hs := hs) (hpl := hpl)
def oInt1 : List D → Option D
  | [.int i] => some (.int i)
  | [.bl b] => some (.int (if b then 1 else 0))
  | _ => none
theorem cs_int1 {K : PySem.W.Frag} : CalS K (fun xs H Q => (∃ i, xs = [.int i] ∧ Q (.int i) H) ∨ ∃ k, xs = [.bl k] ∧ Q (.int (if k then 1 else 0)) H) oInt1 := by
  intro G H vs ds d hs r0 e
  unfold oInt1 at e
  split at e
  · obtain ⟨v, rfl, r⟩ := r0.one
    cases e
    exact ⟨_, rfl, fun Q q => .inl ⟨_, by rw [r.int_], q⟩⟩
  · obtain ⟨v, rfl, r⟩ := r0.one
    cases e
    exact ⟨_, rfl, fun Q q => .inr ⟨_, by rw [r.bl_], q⟩⟩
  · cases e
theorem ve_int1 (hm : X.mg "int" = none) (ha : PA X [e] (WA C wx .bo ms)) (hg : Gl X "int" := by rfl) (hs : starEach [e] X.env = (false, eval e X.env) :: starEach [] X.env := by rfl) (hpl : (backTo pos (starEach [] X.env)).any (·.1) = false := by rfl) : PE X (.Call (.Name "int" p) [e] [] pos) (W C wx g k (mCB ms oInt1)) :=
  ve_callTy call_int1 cs_int1 hm PyProof.Rows.boot_int ha hg (hs := hs) (hpl := hpl)
/-- of lists of bools, of ints -/
def blsD : List D → Option (List Bool)
  | [] => some []
  | .bl b :: r => (blsD r).map (b :: ·)
  | _ :: _ => none
def intsD : List D → Option (List Int)
  | [] => some []
  | .int b :: r => (intsD r).map (b :: ·)
  | _ :: _ => none
theorem RpL.tail {K : PySem.W.Frag} {G H : Hp} {v : V} {vs : List V} {d : D} {ds : List D} (r : RpL K G H (v :: vs) (d :: ds)) : Rp K G H 0 v d (fun _ => False) ∧ RpL K G H vs ds :=
  ⟨r.2 0 v d rfl rfl, by simpa using r.1, fun i v' d' h1 h2 => r.2 (i + 1) v' d' (by simpa using h1) (by simpa using h2)⟩
theorem bls_of {K : PySem.W.Frag} {G H : Hp} : ∀ {vs : List V} {ds : List D} {bs : List Bool}, RpL K G H vs ds → blsD ds = some bs → vs = bs.map V.bl
  | [], [], bs, _, e => by cases e; rfl
  | [], _ :: _, _, r, _ => by cases r.1
  | _ :: _, [], _, r, _ => by cases r.1
  | v :: vs, d :: ds, bs, r, e => by
    obtain ⟨r1, r2⟩ := r.tail
    cases d <;> simp only [blsD] at e <;> first | cases e | skip
    rename_i b
    cases h : blsD ds with
    | none => rw [h] at e; cases e
    | some l => rw [h] at e; cases e; rw [r1.bl_, bls_of r2 h]; rfl
theorem ints_of {K : PySem.W.Frag} {G H : Hp} : ∀ {vs : List V} {ds : List D} {bs : List Int}, RpL K G H vs ds → intsD ds = some bs → vs = bs.map V.int
  | [], [], bs, _, e => by cases e; rfl
  | [], _ :: _, _, r, _ => by cases r.1
  | _ :: _, [], _, r, _ => by cases r.1
  | v :: vs, d :: ds, bs, r, e => by
    obtain ⟨r1, r2⟩ := r.tail
    cases d <;> simp only [intsD] at e <;> first | cases e | skip
    rename_i b
    cases h : intsD ds with
    | none => rw [h] at e; cases e
    | some l => rw [h] at e; cases e; rw [r1.int_, ints_of r2 h]; rfl
theorem RpL.of {K : PySem.W.Frag} {G H : Hp} {vs : List V} {ds : List D} {A : AS} (l : vs.length = ds.length) (c : ∀ (i : Nat) v d, vs[i]? = some v → ds[i]? = some d → Rp K G H 0 v d A) : RpL K G H vs ds := ⟨l, fun i v d a b => (c i v d a b).z⟩
def oAll : List D → Option D
  | [.lst ds] => (blsD ds).map fun bs => .bl (bs.all id)
  | _ => none
def oAny : List D → Option D
  | [.lst ds] => (blsD ds).map fun bs => .bl (bs.any id)
  | _ => none
def oSum : List D → Option D
  | [.lst ds] => (intsD ds).map fun bs => .int bs.sum
  | _ => none
theorem cs_all {K : PySem.W.Frag} : CalS K (rAll K) oAll := by
  intro G H vs ds d hs r0 e
  unfold oAll at e
  split at e
  · rename_i l
    obtain ⟨v, rfl, r⟩ := r0.one
    cases hb : blsD l with
    | none => rw [hb] at e; cases e
    | some bs =>
      rw [hb] at e; cases e
      cases r with
      | lst h l c => 
        have := bls_of (RpL.of l c) hb
        subst this
        exact ⟨_, rfl, fun Q q => ⟨_, _, rfl, sqL_mono h hs, q⟩⟩
  · cases e
theorem cs_any {K : PySem.W.Frag} : CalS K (rAny K) oAny := by
  intro G H vs ds d hs r0 e
  unfold oAny at e
  split at e
  · rename_i l
    obtain ⟨v, rfl, r⟩ := r0.one
    cases hb : blsD l with
    | none => rw [hb] at e; cases e
    | some bs =>
      rw [hb] at e; cases e
      cases r with
      | lst h l c => 
        have := bls_of (RpL.of l c) hb
        subst this
        exact ⟨_, rfl, fun Q q => ⟨_, _, rfl, sqL_mono h hs, q⟩⟩
  · cases e
theorem cs_sum {K : PySem.W.Frag} : CalS K (rSum K) oSum := by
  intro G H vs ds d hs r0 e
  unfold oSum at e
  split at e
  · rename_i l
    obtain ⟨v, rfl, r⟩ := r0.one
    cases hb : intsD l with
    | none => rw [hb] at e; cases e
    | some bs =>
      rw [hb] at e; cases e
      cases r with
      | lst h l c => 
        have := ints_of (RpL.of l c) hb
        subst this
        exact ⟨_, rfl, fun Q q => ⟨_, _, rfl, sqL_mono h hs, q⟩⟩
  · cases e
theorem ve_all (hm : X.mg "all" = none) (ha : PA X [e] (WA C wx .bo ms)) (hg : Gl X "all" := by rfl) (hs : starEach [e] X.env = (false, eval e X.env) :: starEach [] X.env := by rfl) (hpl : (backTo pos (starEach [] X.env)).any (·.1) = false := by rfl) (hc : X.calm = true := by rfl) (hK : X.K = C.K := by rfl) : PE X (.Call (.Name "all" p) [e] [] pos) (W C wx g k (mCB ms oAll)) :=
  ve_callB (r := rAll C.K) (by rw [← hK]; exact cr_all hc) cs_all hm PyProof.Rows.boot_all ha hg (hs := hs) (hpl := hpl)
theorem ve_any (hm : X.mg "any" = none) (ha : PA X [e] (WA C wx .bo ms)) (hg : Gl X "any" := by rfl) (hs : starEach [e] X.env = (false, eval e X.env) :: starEach [] X.env := by rfl) (hpl : (backTo pos (starEach [] X.env)).any (·.1) = false := by rfl) (hc : X.calm = true := by rfl) (hK : X.K = C.K := by rfl) : PE X (.Call (.Name "any" p) [e] [] pos) (W C wx g k (mCB ms oAny)) :=
  ve_callB (r := rAny C.K) (by rw [← hK]; exact cr_any hc) cs_any hm PyProof.Rows.boot_any ha hg (hs := hs) (hpl := hpl)
theorem ve_sum (hm : X.mg "sum" = none) (ha : PA X [e] (WA C wx .bo ms)) (hg : Gl X "sum" := by rfl) (hs : starEach [e] X.env = (false, eval e X.env) :: starEach [] X.env := by rfl) (hpl : (backTo pos (starEach [] X.env)).any (·.1) = false := by rfl) (hc : X.calm = true := by rfl) (hK : X.K = C.K := by rfl) : PE X (.Call (.Name "sum" p) [e] [] pos) (W C wx g k (mCB ms oSum)) :=
  ve_callB (r := rSum C.K) (by rw [← hK]; exact cr_sum hc) cs_sum hm PyProof.Rows.boot_sum ha hg (hs := hs) (hpl := hpl)
/-! ### isinstance of a built-in class -/
def tyN : D → Option String
  | .non => some "NoneType"
  | .bl _ => some "bool"
  | .int _ => some "int"
  | .str _ => some "str"
  | .tup _ => some "tuple"
  | .lst _ => some "list"
  | .dct _ => some "dict"
  | _ => none
def isT (T : String) : D → Option Bool
  | .non => some false
  | .bl _ => some (T == "bool" || T == "int")
  | .int _ => some (T == "int")
  | .str _ => some (T == "str")
  | .tup _ => some (T == "tuple")
  | .lst _ => some (T == "list")
  | .dct _ => some (T == "dict")
  | _ => none
def okT (T : String) : Bool := T == "int" || T == "bool" || T == "str" || T == "list" || T == "tuple" || T == "dict"
theorem isT_kit {T : String} (hT : okT T = true) {d : D} {b : Bool} {t : String} (e : isT T d = some b) (h : tyN d = some t) : kitB t T = some b := by
  simp only [okT, Bool.or_eq_true, beq_iff_eq] at hT
  cases d <;> simp only [tyN, Option.some.injEq, isT] at e h <;> first | cases h | skip
  all_goals (subst e; rcases hT with ((((hT | hT) | hT) | hT) | hT) | hT <;> subst hT <;> decide +kernel)
theorem tyX_of {K : PySem.W.Frag} {G H : Hp} {x : V} {d : D} {A : AS} {t : String} (hs : Same G H) (r : Rp K G H 0 x d A) (h : tyN d = some t) : TyX K H x (.type t) := by
  revert h
  cases r with
  | non => intro h; cases h; exact .base .non
  | bl => intro h; cases h; exact .base (.bl _)
  | int => intro h; cases h; exact .base (.int _)
  | str => intro h; cases h; exact .base (.str _)
  | tup hh l c =>
    intro h; cases h
    rcases hh with (hh | ⟨o, hh⟩) | ⟨o, its, n, h1, h2, _⟩
    · exact .base (.tup hh)
    · exact .fTuple hh
    · exact .kTuple h1 h2
  | lst hh l c =>
    intro h; cases h
    rcases hh with (hh | ⟨o, hh⟩) | ⟨o, its, n, h1, h2, _⟩
    · exact .base (.lst (hs _ _ hh))
    · exact .base (.frz (hs _ _ hh))
    · exact .kList h1 h2
  | dct hh l c => intro h; cases h; exact .base (.dK (hs _ _ hh))
  | obj => intro h; cases h
  | err => intro h; cases h
def oIsi (T : String) (d : D) : Option D := (isT T d).map D.bl
theorem isT_ty {T : String} {d : D} {b : Bool} (e : isT T d = some b) : ∃ t, tyN d = some t := by
  cases d <;> first | exact ⟨_, rfl⟩ | cases e
theorem ve_isi {m : M} {y : Str} {p2 : Pos} {T : String} (hm : X.mg "isinstance" = none) (hmT : X.mg y = none) (hvT : bootBuiltins y = some (.type T)) (hT : okT T = true) (ha : PE X e (W C wx .bo 0 m)) (hgT : Gl X y := by rfl) (hnT : y ≠ "__name__" := by decide) (hdT : (y == ("__debug__" : Str)) = false := by decide) (hg : Gl X "isinstance" := by rfl)
    (hs : starEach [e, .Name y p2] X.env = (false, eval e X.env) :: starEach [.Name y p2] X.env := by rfl) (hs2 : starEach [.Name y p2] X.env = (false, eval (.Name y p2) X.env) :: starEach [] X.env := by rfl) (hpl : (backTo pos (starEach [.Name y p2] X.env)).any (·.1) = false := by rfl) (hK : X.K = C.K := by rfl) :
    PE X (.Call (.Name "isinstance" p) [e, .Name y p2] [] pos) (W C wx g k (m1 m (oIsi T))) := by
  refine (pe_callB call_isi hg hm PyProof.Rows.boot_isinstance (pa_cons ha (pa_cons (pe_bltn (v := .ty T) hgT hmT hvT rfl hnT hdT) pa_nil hs2) hs) (by decide) (by decide) hs hpl).wk fun σ H Q w => ?_
  obtain ⟨F, B, n, ds, S, h⟩ := w
  refine ⟨F, B, n, ds, S, (h.bind fun F1 H1 F2 H2 v d G r => r.tr G).mono fun x H1 ⟨F1, n1, d, G1, S1, ⟨A1, r1, f1⟩, h1⟩ => ?_⟩
  obtain ⟨d2, e2, q⟩ := h1.sc S1
  cases hb : isT T d with
  | none => simp [oIsi, hb] at e2
  | some bb =>
    simp only [oIsi, hb, Option.map_some, Option.some.injEq] at e2
    subst e2
    obtain ⟨t, ht⟩ := isT_ty hb
    rw [hK]
    exact ⟨x, .ty T, .type t, .type T, bb, rfl, .ty T, tyX_of (rg_same S1.fh) r1 ht, kit_ty (isT_kit hT hb ht), q _ rfl⟩
/-! ### divmod, tuple(..), list(..): a new thing -/
noncomputable def oDivmod : List D → Option D
  | [.int i, .int j] => if divOk j = true then some (.tup [.int (i / j), .int (i % j)]) else none
  | _ => none
theorem divOk.pp {i j : Int} (h : divOk j = true) : CDivP i j := by
  have q : CDivW i j := divOk.ok h
  exact ⟨q.1, PyProof.noPylong_of_log2 q.2⟩
theorem ve_divmod (hm : X.mg "divmod" = none) (ha : PA X (e :: es) (WA C wx .bo ms)) (hg : Gl X "divmod" := by rfl)
    (hs : starEach (e :: es) X.env = (false, eval e X.env) :: starEach es X.env := by rfl) (hpl : (backTo pos (starEach es X.env)).any (·.1) = false := by rfl) : PE X (.Call (.Name "divmod" p) (e :: es) [] pos) (W C wx g k (mCB ms oDivmod)) := by
  refine (pe_callB call_divmodW hg hm PyProof.Rows.boot_divmod ha (by decide) (by decide) hs hpl).wk fun σ H Q w => ?_
  obtain ⟨F, B, n, ds, S, h⟩ := w
  refine ⟨F, B, n, ds, S, (h.bind fun F1 H1 F2 H2 v d G r => r.tr G).mono fun xs H1 ⟨F1, n1, da, G1, S1, r1, h1⟩ => ?_⟩
  obtain ⟨d, e, q⟩ := h1.retE
  unfold oDivmod at e
  split at e
  · split at e
    · rename_i i j hd
      cases e
      obtain ⟨v, v', rfl, ra, rb⟩ := r1.two
      refine ⟨i, j, by rw [ra.int_, rb.int_], divOk.pp hd, fun p hp => ?_⟩
      obtain ⟨G2, S2⟩ := S1.newO (o := .tup [.int (i / j), .int (i % j)]) hp
      exact q (.ref p) F1 _ G2 S2 (RV_of0 (.tup (.inl (.inl upd_same)) rfl (RpL.cons (A := fun _ => False) .int (RpL.cons (A := fun _ => False) .int RpL.nil)).2))
    · cases e
  · cases e
def oTuple : List D → Option D
  | [.lst ds] => some (.tup ds)
  | [.tup ds] => some (.tup ds)
  | _ => none
theorem ve_tuple (hm : X.mg "tuple" = none) (ha : PA X [e] (WA C wx g ms)) (hg : Gl X "tuple" := by rfl)
    (hs : starEach [e] X.env = (false, eval e X.env) :: starEach [] X.env := by rfl) (hpl : (backTo pos (starEach [] X.env)).any (·.1) = false := by rfl) (hK : X.K = C.K := by rfl) : PE X (.Call (.Name "tuple" p) [e] [] pos) (W C wx g k (mCB ms oTuple)) := by
  refine (pe_callTy call_tuple_of hg hm PyProof.Rows.boot_tuple ha (by decide) (by decide) hs hpl).wk fun σ H Q w => ?_
  obtain ⟨F, B, n, ds, S, h⟩ := w
  refine ⟨F, B, n, ds, S, (h.bind fun F1 H1 F2 H2 v d G r => r.tr G).mono fun xs H1 ⟨F1, n1, da, G1, S1, r1, h1⟩ => ?_⟩
  obtain ⟨d, e, q⟩ := h1.retE
  unfold oTuple at e
  split at e
  · cases e
    obtain ⟨v, rfl, r⟩ := r1.one
    cases r with
    | lst hh l c =>
      rw [hK]
      refine ⟨_, _, rfl, .inl ⟨sqL_mono hh (rg_same S1.fh), fun p hp => ?_⟩⟩
      obtain ⟨G2, S2⟩ := S1.newO (o := .tup _) hp
      exact q (.ref p) F1 _ G2 S2 (RV_of0 (.tup (.inl (.inl upd_same)) l fun i v d a b => Rp.go0 (c i v d a b) G2))
  · cases e
    obtain ⟨v, rfl, r⟩ := r1.one
    cases r with
    | tup hh l c =>
      rw [hK]
      exact ⟨_, _, rfl, .inr ⟨hh, q _ F1 H1 (GoC.refl S1.fh) S1 (RV_of0 (.tup hh l c))⟩⟩
  · cases e
def oList : List D → Option D
  | [.lst ds] => some (.lst ds)
  | [.tup ds] => some (.lst ds)
  | _ => none
theorem ve_list (hm : X.mg "list" = none) (ha : PA X [e] (WA C wx .fz ms)) (hg : Gl X "list" := by rfl)
    (hs : starEach [e] X.env = (false, eval e X.env) :: starEach [] X.env := by rfl) (hpl : (backTo pos (starEach [] X.env)).any (·.1) = false := by rfl) (hK : X.K = C.K := by rfl) : PE X (.Call (.Name "list" p) [e] [] pos) (W C wx .fz 1 (mCB ms oList)) := by
  refine (pe_callTy call_list_of hg hm PyProof.Rows.boot_list ha (by decide) (by decide) hs hpl).wk fun σ H Q w => ?_
  obtain ⟨F, B, n, ds, S, h⟩ := w
  refine ⟨F, B, n, ds, S, (h.bind fun F1 H1 F2 H2 v d G r => r.tr G).mono fun xs H1 ⟨F1, n1, da, G1, S1, r1, h1⟩ => ?_⟩
  obtain ⟨d, e, q⟩ := h1.retE
  unfold oList at e
  split at e
  · cases e
    obtain ⟨v, rfl, r⟩ := r1.one
    cases r with
    | lst hh l c =>
      rw [hK]
      refine ⟨_, _, rfl, .inl (sqL_mono hh S1.fh), fun p hp => ?_⟩
      obtain ⟨G2, S2⟩ := S1.newO (o := .lst _) hp
      exact q (.ref p) F1 _ G2 S2 ⟨fun a => a = p, .lstO (fun _ _ => False) upd_same rfl l (fun i v d a b => Rp.go0 (g := .fz) (c i v d a b) G2) (fun _ _ h => h.elim) (fun _ _ _ h => h.elim), Fr.one S1.fh hp rfl⟩
  · cases e
    obtain ⟨v, rfl, r⟩ := r1.one
    cases r with
    | tup hh l c =>
      rw [hK]
      refine ⟨_, _, rfl, .inr hh, fun p hp => ?_⟩
      obtain ⟨G2, S2⟩ := S1.newO (o := .lst _) hp
      exact q (.ref p) F1 _ G2 S2 ⟨fun a => a = p, .lstO (fun _ _ => False) upd_same rfl l (fun i v d a b => Rp.go0 (g := .fz) (c i v d a b) G2) (fun _ _ h => h.elim) (fun _ _ _ h => h.elim), Fr.one S1.fh hp rfl⟩
  · cases e

/-! ### a def's promise, its call -/
abbrev FM := Int → List D → Option (Ot D × Int)
def pureF (f : List D → Option (Ot D)) : FM := fun n ds => (f ds).map fun o => (o, n)
def spM (K : PySem.W.Frag) (ci : Option Nat) (np kr : Nat) (fm : FM) : Sp := fun vs H Q E => vs.length = np ∧ ∃ (F : Hp) (q : Option Addr) (n : Int) (ds : List D), Same F H ∧ (ci = none → q = none) ∧
  (∀ i, ci = some i → ∃ a, q = some a ∧ vs[i]? = some (.ref a) ∧ H a = some (.lst [.int n]) ∧ F a = none) ∧ vs.length = ds.length ∧
  (∀ (i : Nat) v d, ci ≠ some i → vs[i]? = some v → ds[i]? = some d → Rp K F H 0 v d (fun _ => False)) ∧
  match fm n ds with
  | none => False
  | some (.ok d, n') => ∀ v F' H', GoC q F H F' H' → (∀ a, q = some a → H' a = some (.lst [.int n'])) → (∃ A, Rp K F' H' kr v d A ∧ Fr F' H H' A) → Q v H'
  | some (.ex c fs, n') => ∀ F' H' od, GoC q F H F' H' → (∀ a, q = some a → H' a = some (.lst [.int n'])) → ExR H H' od fs → E (.ref (ec K c)) od H'
def qOf (ci : Option Nat) (q : Option Addr) : Option Addr := match ci with
  | none => none
  | some _ => q
def RAc (C : Ctx) (g : Rg) (ci : Option Nat) : Hp → Hp → Hp → List V → List D → Prop := fun _ F' H' vs ds => vs.length = ds.length ∧
  (∀ (i : Nat) v d, ci ≠ some i → vs[i]? = some v → ds[i]? = some d → Rp C.K (rg C.q g F' H') H' 0 v d (fun _ => False)) ∧ ∀ i, ci = some i → ∃ q, C.q = some q ∧ vs[i]? = some (.ref q)
abbrev WAc (C : Ctx) (wx : WX) (g : Rg) (ci : Option Nat) (m : Mo (List D)) : TA := WW C wx (RAc C g ci) m
theorem vc_all {g : Rg} (h : PA X es (WA C wx g ms)) : PA X es (WAc C wx g none ms) := by
  refine h.wk fun σ H Q w => ?_
  obtain ⟨F, B, n, ds, S, h⟩ := w
  refine ⟨F, B, n, ds, S, ?_⟩
  unfold WL at h ⊢
  cases e : ms n ds with
  | none => rw [e] at h; exact h
  | some p =>
    rw [e] at h
    obtain ⟨o, n'⟩ := p
    cases o with
    | ex c fs => exact h
    | ok d => exact fun v F' H' G S r => h v F' H' G S ⟨r.1, fun i v d _ a b => r.2 i v d a b, fun i hi => by cases hi⟩
theorem vc_cons {m : M} {ci : Option Nat} (ha : PE X e (W C wx g 0 m)) (hr : PA X es (WAc C wx g ci ms)) (hs : starEach (e :: es) X.env = (false, eval e X.env) :: starEach es X.env := by rfl) : PA X (e :: es) (WAc C wx g (ci.map (· + 1)) (mCons m ms)) := by
  refine (pa_cons ha hr hs).wk fun σ H Q w => ?_
  obtain ⟨F, B, n, ds, S, h⟩ := w
  refine ⟨F, B, n, ds, S, (h.bind fun F1 H1 F2 H2 v d G r => r).mono fun x H1 ⟨F1, n1, d, G1, S1, ⟨A1, r1, f1⟩, h1⟩ => ?_⟩
  refine ⟨F1, B, n1, ds, S1, (h1.bind fun F1 H1 F2 H2 v d G r => r).mono fun xs H2 ⟨F2, n2, d2, G2, S2, r2, h2⟩ => ?_⟩
  obtain ⟨d3, e3, q⟩ := h2.retE
  cases e3
  refine q (x :: xs) F2 H2 (GoC.refl S2.fh) S2 ⟨by simp [r2.1], fun i v' d' hi h1 h2 => ?_, fun i hi => ?_⟩
  · cases i with
    | zero =>
      simp only [List.getElem?_cons_zero, Option.some.injEq] at h1 h2
      subst h1 h2
      exact Rp.go0 r1 G2
    | succ i =>
      refine r2.2.1 i v' d' (fun z => hi ?_) (by simpa using h1) (by simpa using h2)
      rw [z]; rfl
  · cases ci with
    | none => cases hi
    | some j =>
      cases hi
      obtain ⟨q, h1, h2⟩ := r2.2.2 j rfl
      exact ⟨q, h1, by simpa using h2⟩
/-- the cell's name as an argument -/
theorem vc_cell {i : Nat} (h : PE X e (tVar i)) (hq : ∃ q, C.q = some q ∧ C.pn i = some (.ref q)) (hr : PA X es (WAc C wx g none ms)) (hs : starEach (e :: es) X.env = (false, eval e X.env) :: starEach es X.env := by rfl) : PA X (e :: es) (WAc C wx g (some 0) (mCons (mC .non) ms)) := by
  refine (pa_cons h hr hs).wk fun σ H Q w => ?_
  obtain ⟨F, B, n, ds, S, h⟩ := w
  obtain ⟨q, hq1, hq2⟩ := hq
  have h' : WL C wx (RAc C g (some 0)) (mb ms fun ds => ret (some (.non :: ds))) F B n ds σ H Q := h
  refine ⟨_, S.pin i _ hq2, ?_⟩
  refine ⟨F, B, n, ds, S, (h'.bind fun F1 H1 F2 H2 v d G r => r).mono fun xs H2 ⟨F2, n2, d2, G2, S2, r2, h2⟩ => ?_⟩
  obtain ⟨d3, e3, q3⟩ := h2.retE
  cases e3
  refine q3 _ F2 H2 (GoC.refl S2.fh) S2 ⟨by simp [r2.1], fun i v' d' hi h1 h2 => ?_, fun i hi => ?_⟩
  · cases i with
    | zero => exact (hi rfl).elim
    | succ i => exact r2.2.1 i v' d' (by simp) (by simpa using h1) (by simpa using h2)
  · cases hi
    exact ⟨q, hq1, rfl⟩
theorem WL.strong {α β : Type} {R : Hp → Hp → Hp → β → α → Prop} {m : Mo α} {P : α → Prop} {F : Hp} {B : AS} {n : Int} {ds : DS} {σ : L2.St} {H : Hp} {Q : β → Hp → Prop} (hP : ∀ n ds d n', m n ds = some (.ok d, n') → P d) (h : WL C wx (fun H F' H' v d => R H F' H' v d ∧ P d) m F B n ds σ H Q) : WL C wx R m F B n ds σ H Q := by
  unfold WL at h ⊢
  cases e : m n ds with
  | none => rw [e] at h; exact h
  | some p =>
    rw [e] at h
    obtain ⟨o, n'⟩ := p
    cases o with
    | ok d => exact fun v F' H' g S r => h v F' H' g S ⟨r, hP _ _ _ _ e⟩
    | ex c fs => exact h
def mCall (fm : FM) (ms : Mo (List D)) : M := mb ms fun ds => fun n _ => fm n ds
theorem spM_of {fm : FM} {ci : Option Nat} {np kr : Nat} {F : Hp} {B : AS} {n : Int} {ds : DS} {σ : L2.St} {H : Hp} {vs : List V} {as : List D} {Q : VK} (hp : ci = none → ∃ f, fm = pureF f) (S : Sim C F B σ H n ds) (r : RAc C g ci H F H vs as) (hl : as.length = np)
    {RR : Hp → Hp → Hp → V → D → Prop} (hR : ∀ d v F' H', GoC C.q F H F' H' → (∃ A, Rp C.K F' H' kr v d A ∧ Fr F' H H' A) → g = .fz → RR H F' H' v d)
    (hRb : ∀ d v F2 H', g = .bo → GoC C.q F H F H' → (∃ A, Rp C.K F2 H' kr v d A ∧ Fr F2 H H' A) → RR H F H' v d)
    (w : WL C wx RR (fun n _ => fm n as) F B n ds σ H Q) : spM C.K ci np kr fm vs H Q (WE wx σ) := by
  have hq : ∀ i, ci = some i → ∃ a, C.q = some a ∧ vs[i]? = some (.ref a) ∧ H a = some (.lst [.int n]) ∧ rg C.q g F H a = none := fun i hi => by
    obtain ⟨a, h1, h2⟩ := r.2.2 i hi
    obtain ⟨h3, h4⟩ := S.cell a h1
    refine ⟨a, h1, h2, h4, ?_⟩
    cases g with
    | fz => exact (S.bok a h3).1
    | bo => show (if C.q = some a then none else H a) = none; rw [if_pos h1]
  refine ⟨r.1.trans hl, rg C.q g F H, (qOf ci C.q), n, as, rg_same S.fh, fun h => by rw [h]; rfl, fun i hi => by
    obtain ⟨a, h1, h2⟩ := hq i hi
    refine ⟨a, ?_, h2⟩
    rw [hi]; exact h1, r.1, r.2.1, ?_⟩
  unfold WL at w
  -- the heap's step, seen from here
  have step : ∀ F' H' n', GoC (qOf ci C.q) (rg C.q g F H) H F' H' → (∀ a, (qOf ci C.q) = some a → H' a = some (.lst [.int n'])) → (ci = none → n' = n) →
      ∃ F1, GoC C.q F H F1 H' ∧ Sim C F1 B σ H' n' ds ∧ (g = .fz → F1 = F') ∧ (g = .bo → F1 = F) := fun F' H' n' G hc hn => by
    have hcell : ∀ a, C.q = some a → H' a = some (.lst [.int n']) := fun a ha => by
      cases ci with
      | none =>
        rw [hn rfl]
        exact G.go.hh a _ (S.cell a ha).2 (by simp [qOf])
      | some i => exact hc a ha
    cases g with
    | fz =>
      have G' : GoC C.q F H F' H' := by
        cases ci with
        | none => exact GoC.of0 G
        | some i => exact G
      exact ⟨F', G', S.go G' hcell, fun _ => rfl, fun h => by cases h⟩
    | bo =>
      have hne : ∀ a o, F a = some o → C.q ≠ some a := fun a o e z => by
        have := (S.bok a (S.cell a z).1).1
        rw [this] at e; cases e
      have G' : GoC C.q F H F H' := ⟨⟨Same.refl _, fun a o e => G.go.hh a o (S.fh a o e) (by
          cases ci with
          | none => simp [qOf]
          | some i => exact hne a o e), fun a o e z => G.go.hh a o e (by
          cases ci with
          | none => simp [qOf]
          | some i => exact z), G.go.ht, fun a o n _ => n⟩, G.dm⟩
      exact ⟨F, G', S.go G' hcell, (fun h => by cases h), fun _ => rfl⟩
  have hn : ∀ o n', fm n as = some (o, n') → ci = none → n' = n := fun o n' e hi => by
    obtain ⟨f, hf⟩ := hp hi
    rw [hf] at e
    unfold pureF at e
    cases hfa : f as with
    | none => rw [hfa] at e; cases e
    | some oo => rw [hfa] at e; cases e; rfl
  cases e : fm n as with
  | none => simp only [e] at w
  | some p =>
    obtain ⟨o, n'⟩ := p
    simp only [e] at w
    cases o with
    | ok d =>
      rintro v F' H' G hc ⟨A, rr, ff⟩
      obtain ⟨F1, G1, S1, e1, e2⟩ := step F' H' n' G hc (hn _ _ e)
      refine w v F1 H' G1 S1 ?_
      cases hg : g with
      | fz => have z := e1 hg; subst z; exact hR d v F1 H' G1 ⟨A, rr, ff⟩ hg
      | bo => have z := e2 hg; subst z; exact hRb d v F' H' hg G1 ⟨A, rr, ff⟩
    | ex c fs =>
      intro F' H' od G hc hx
      obtain ⟨F1, G1, S1, _, _⟩ := step F' H' n' G hc (hn _ _ e)
      exact w F1 H' od G1 S1 hx
section
variable {kk : Nat} {f : Addr} {fd : FuncData} {ps : List Str} {fm : FM} {ci : Option Nat} {np kr : Nat}
/-- f(..): the things stand | they are read now, and what it tells is flat -/
theorem ve_call (F : FnOk X.prog X.w X.K X.mg X.base (L2.CX X.prog X.w) kk f fd ps (spM C.K ci np kr fm)) (hp : ci = none → ∃ f, fm = pureF f) (hr : Room kk X.A) (hm : X.mg x = some (.ref f)) (hk : PySem.W.keepIn X.K (.ref f) = true) (hb : Binds X.K fd ps []) (tk : Takes X wx)
    (ha : PA X (e :: es) (WAc C wx .fz ci ms)) (hlen : ∀ n ds d n', ms n ds = some (.ok d, n') → d.length = np) (hg : Gl X x := by rfl) (hdb : (x == ("__debug__" : Str)) = false := by decide) (he : starEach (e :: es) X.env = (false, eval e X.env) :: starEach es X.env := by rfl) (hpl : (backTo pos (starEach es X.env)).any (·.1) = false := by rfl) :
    PE X (.Call (.Name x p) (e :: es) [] pos) (W C wx .fz kr (mCall fm ms)) := by
  refine (pe_callS F hr hg hm hk hb (fun σ => passAt tk σ) ha hdb he hpl).wk fun σ H Q w => ?_
  obtain ⟨F, B, n, ds, S, h⟩ := w
  refine ⟨F, B, n, ds, S, WL.strong hlen ((h.bind (R := fun H F' H' vs as => RAc C .fz ci H F' H' vs as ∧ as.length = np) fun F1 H1 F2 H2 v d G r => r.tr G).mono fun vs H1 ⟨F2, n2, d2, G2, S2, ⟨r2, hl⟩, h2⟩ => ?_)⟩
  exact spM_of (RR := RV C .fz kr) hp S2 r2 hl (fun d v F' H' G r _ => r) (fun _ _ _ _ h => by cases h) h2
theorem ve_callb (F : FnOk X.prog X.w X.K X.mg X.base (L2.CX X.prog X.w) kk f fd ps (spM C.K ci np kr fm)) (hp : ci = none → ∃ f, fm = pureF f) (hr : Room kk X.A) (hm : X.mg x = some (.ref f)) (hk : PySem.W.keepIn X.K (.ref f) = true) (hb : Binds X.K fd ps []) (tk : Takes X wx)
    (ha : PA X (e :: es) (WAc C wx .bo ci ms)) (hlen : ∀ n ds d n', ms n ds = some (.ok d, n') → d.length = np) (hg : Gl X x := by rfl) (hdb : (x == ("__debug__" : Str)) = false := by decide) (he : starEach (e :: es) X.env = (false, eval e X.env) :: starEach es X.env := by rfl) (hpl : (backTo pos (starEach es X.env)).any (·.1) = false := by rfl) :
    PE X (.Call (.Name x p) (e :: es) [] pos) (W C wx g k (mFlat (mCall fm ms))) := by
  refine (pe_callS F hr hg hm hk hb (fun σ => passAt tk σ) ha hdb he hpl).wk fun σ H Q w => ?_
  obtain ⟨F, B, n, ds, S, h⟩ := w
  have hb := h.bind (R := fun H F' H' v d => ∃ G' A, Rp C.K G' H' kr v d A) fun F1 H1 F2 H2 v d G r => r.tr G
  refine ⟨F, B, n, ds, S, WL.strong hlen ((hb.bind (R := fun H F' H' vs as => RAc C .bo ci H F' H' vs as ∧ as.length = np) fun F1 H1 F2 H2 v d G r => r).mono fun vs H1 ⟨F2, n2, d2, G2, S2, ⟨r2, hl⟩, h2⟩ => ?_)⟩
  refine spM_of (RR := fun H F' H' v d => ∃ G' A, Rp C.K G' H' kr v d A) hp S2 r2 hl (fun d v F' H' G r h => by cases h) (fun d v F2 H' _ G ⟨A, r, _⟩ => ⟨F2, A, r⟩) (WL.mono h2 fun v H' ⟨F3, n3, d3, G3, S3, ⟨G', A, r3⟩, h3⟩ => ?_)
  obtain ⟨d4, e4, q⟩ := h3.retE
  by_cases hf : flat d3 = true
  · rw [if_pos hf] at e4
    cases e4
    exact q v F3 H' (GoC.refl S3.fh) S3 ⟨fun _ => False, r3.flat_any hf _ _ _, Fr.no⟩
  · rw [if_neg hf] at e4; cases e4
end
end
end GW

namespace GW
open PySem L2
def LenM (ms : Mo (List D)) (k : Nat) : Prop := ∀ n ds d n', ms n ds = some (.ok d, n') → d.length = k
theorem LenM.nil : LenM (ret (some [])) 0 := fun n ds d n' h => by cases h; rfl
theorem LenM.cons {m : M} {ms : Mo (List D)} {k : Nat} (h : LenM ms k) : LenM (mCons m ms) (k + 1) := fun n ds d n' e => by
  unfold mCons mb at e
  split at e <;> try cases e
  dsimp only at e
  split at e <;> try cases e
  rename_i e2
  rw [List.length_cons, h _ _ _ _ e2]

/-! ### statements -/
inductive Fl where
  | nx | bk | ct | rt (d : D) | ex (c : Nat) (fs : List (Str × Int))
abbrev MS := Int → DS → Option (Fl × Int × DS)
/-- what a statement does to the heap -/
structure GoS (B : AS) (F H : Hp) (B' : AS) (F' H' : Hp) : Prop where
  ff : Same F F'
  fh : Same F' H'
  hh : ∀ a o, H a = some o → ¬ B a → H' a = some o
  ht : ∀ a o, H a = some o → Mk o = false → H' a = some o
  nf : ∀ a o, F a = none → H a = some o → ¬ B a → F' a = none
  bb : ∀ a, B' a → B a ∨ H a = none
  dm : ∀ a o, H a = some o → ∃ o', H' a = some o'
section
variable {B B1 B2 : AS} {F H F1 H1 F2 H2 : Hp}
theorem GoS.refl (h : Same F H) : GoS B F H B F H := ⟨Same.refl _, h, fun _ _ e _ => e, fun _ _ e _ => e, fun _ _ e _ _ => e, fun _ h => .inl h, fun _ o e => ⟨o, e⟩⟩
theorem GoS.trans (a : GoS B F H B1 F1 H1) (b : GoS B1 F1 H1 B2 F2 H2) : GoS B F H B2 F2 H2 where
  ff := a.ff.trans b.ff
  fh := b.fh
  hh := fun x o e n => b.hh x o (a.hh x o e n) fun z => by
    rcases a.bb x z with z | z
    · exact n z
    · rw [e] at z; cases z
  ht := fun x o e n => b.ht x o (a.ht x o e n) n
  nf := fun x o n e z => by
    have e1 := a.hh x o e z
    exact b.nf x o (a.nf x o n e z) e1 fun z' => by
      rcases a.bb x z' with q | q
      · exact z q
      · rw [e] at q; cases q
  bb := fun x z => by
    rcases b.bb x z with z | z
    · exact a.bb x z
    · right
      exact none_some a.dm z
  dm := fun x o e => by
    obtain ⟨o', e'⟩ := a.dm x o e
    exact b.dm x o' e'
theorem ExR.trS {B B1 : AS} {F H F1 H1 H2 : Hp} {od : Option Addr} {fs : List (Str × Int)} (G : GoS B F H B1 F1 H1) (h : ExR H1 H2 od fs) : ExR H H2 od fs := by
  rcases h with h | ⟨d, h1, h2, h3⟩
  · exact .inl h
  · exact .inr ⟨d, h1, none_some G.dm h2, h3⟩
theorem GoC.toS {q : Option Addr} (g : GoC q F H F1 H1) (hq : ∀ a, q = some a → B a) : GoS B F H B F1 H1 :=
  ⟨g.go.ff, g.go.fh, fun a o e n => g.go.hh a o e fun z => n (hq a z), g.go.ht, fun a o n e _ => g.go.nf a o n e, fun _ h => .inl h, g.dm⟩
end
theorem Sim.qB {C : Ctx} {F H : Hp} {B : AS} {σ : L2.St} {n : Int} {ds : DS} (S : Sim C F B σ H n ds) : ∀ a, C.q = some a → B a := fun a h => (S.cell a h).1

/-- what is told at a return: the thing, the cell -/
def RtP (C : Ctx) (kr : Nat) (B : AS) (F H : Hp) (n' : Int) (d : D) (Q : VK) : Prop :=
  ∀ v B' F' H' A, GoS B F H B' F' H' → (∀ q, C.q = some q → H' q = some (.lst [.int n']) ∧ F' q = none) → Rp C.K F' H' kr v d A → (∀ a, A a → (B a ∨ H a = none) ∧ F' a = none ∧ C.q ≠ some a ∧ ∃ o, H' a = some o ∧ Mk o = true) → Q v H'
def WSL (C : Ctx) (wx : WX) (kr : Nat) (ms : MS) (F : Hp) (B : AS) (n : Int) (ds : DS) (H : Hp) (E : Ends) : Prop :=
  match ms n ds with
  | none => False
  | some (.nx, n', ds') => ∀ σ' F' B' H', GoS B F H B' F' H' → Sim C F' B' σ' H' n' ds' → E.nx σ' H'
  | some (.bk, n', ds') => ∀ σ' F' B' H', GoS B F H B' F' H' → Sim C F' B' σ' H' n' ds' → E.bk σ' H'
  | some (.ct, n', ds') => ∀ σ' F' B' H', GoS B F H B' F' H' → Sim C F' B' σ' H' n' ds' → E.ct σ' H'
  | some (.rt d, n', _) => RtP C kr B F H n' d E.rt
  | some (.ex c fs, n', ds') => ∀ σ' F' B' H' od, GoS B F H B' F' H' → Sim C F' B' σ' H' n' ds' → ExR H H' od fs → wx (.ref (ec C.K c)) od σ' H'
def WS (C : Ctx) (wx : WX) (kr : Nat) (ms : MS) : TS := fun E σ H => ∃ F B n ds, Sim C F B σ H n ds ∧ WSL C wx kr ms F B n ds H E

def sNx : MS := fun n ds => some (.nx, n, ds)
def sSeq (a b : MS) : MS := fun n ds => match a n ds with
  | some (.nx, n1, ds1) => b n1 ds1
  | r => r
def sNone : MS := fun _ _ => none
section
variable {X : Cx} {C : Ctx} {wx : WX} {kr : Nat} {st : Stmt} {sts : List Stmt} {ma mc : MS} {pos : Pos}
theorem RtP.tr {B B1 : AS} {F H F1 H1 : Hp} {n' : Int} {d : D} {Q : VK} (G : GoS B F H B1 F1 H1) (h : RtP C kr B F H n' d Q) : RtP C kr B1 F1 H1 n' d Q := fun v B' F' H' A G2 hc r f =>
  h v B' F' H' A (G.trans G2) hc r fun a ha => by
    obtain ⟨z, z2⟩ := f a ha
    refine ⟨?_, z2⟩
    rcases z with z | z
    · exact G.bb a z
    · right; exact none_some G.dm z
/-- from a later state on -/
theorem WSL.tr {B B1 : AS} {F H F1 H1 : Hp} {n n1 : Int} {ds ds1 : DS} {E : Ends} {m m1 : MS} (G : GoS B F H B1 F1 H1) (e : m n ds = m1 n1 ds1) (h : WSL C wx kr m F B n ds H E) : WSL C wx kr m1 F1 B1 n1 ds1 H1 E := by
  unfold WSL at h ⊢
  rw [← e]
  cases e2 : m n ds with
  | none => rw [e2] at h; exact h
  | some p =>
    rw [e2] at h
    obtain ⟨fl, n', ds'⟩ := p
    cases fl with
    | nx => exact fun σ' F' B' H' G2 S => h σ' F' B' H' (G.trans G2) S
    | bk => exact fun σ' F' B' H' G2 S => h σ' F' B' H' (G.trans G2) S
    | ct => exact fun σ' F' B' H' G2 S => h σ' F' B' H' (G.trans G2) S
    | rt d => exact RtP.tr G h
    | ex c fs => exact fun σ' F' B' H' od G2 S x => h σ' F' B' H' od (G.trans G2) S (x.trS G)
theorem ws_nil : PSs X [] (WS C wx kr sNx) := pss_nil.wk fun E σ H w => by
  obtain ⟨F, B, n, ds, S, h⟩ := w
  exact h σ F B H (GoS.refl S.fh) S
theorem wsl_seq {F H : Hp} {B : AS} {n : Int} {ds : DS} {E : Ends} (h : WSL C wx kr (sSeq ma mc) F B n ds H E) : WSL C wx kr ma F B n ds H { E with nx := WS C wx kr mc E } := by
  have h0 := h
  unfold WSL at h ⊢
  cases e : ma n ds with
  | none => simp only [sSeq, e] at h
  | some p =>
    obtain ⟨fl, n', ds'⟩ := p
    cases fl with
    | nx =>
      intro σ' F' B' H' G S
      exact ⟨F', B', n', ds', S, WSL.tr G (by simp only [sSeq, e]) h0⟩
    | bk => simp only [sSeq, e] at h; exact h
    | ct => simp only [sSeq, e] at h; exact h
    | rt d => simp only [sSeq, e] at h; exact h
    | ex c fs => simp only [sSeq, e] at h; exact h
theorem ws_cons (h1 : PS X st (WS C wx kr ma)) (h2 : PSs X sts (WS C wx kr mc)) : PSs X (st :: sts) (WS C wx kr (sSeq ma mc)) := (pss_cons h1 h2).wk fun E σ H w => by
  obtain ⟨F, B, n, ds, S, h⟩ := w
  exact ⟨F, B, n, ds, S, wsl_seq h⟩
theorem ws_one (h1 : PS X st (WS C wx kr ma)) : PSs X [st] (WS C wx kr ma) := pss_one h1
theorem ws_pass : PS X (.Pass pos) (WS C wx kr sNx) := ps_pass.wk fun E σ H w => by
  obtain ⟨F, B, n, ds, S, h⟩ := w
  exact h σ F B H (GoS.refl S.fh) S
def sBk : MS := fun n ds => some (.bk, n, ds)
def sCt : MS := fun n ds => some (.ct, n, ds)
theorem ws_break : PS X (.Break pos) (WS C wx kr sBk) := ps_break.wk fun E σ H w => by
  obtain ⟨F, B, n, ds, S, h⟩ := w
  exact h σ F B H (GoS.refl S.fh) S
theorem ws_cont : PS X (.Continue pos) (WS C wx kr sCt) := ps_continue.wk fun E σ H w => by
  obtain ⟨F, B, n, ds, S, h⟩ := w
  exact h σ F B H (GoS.refl S.fh) S
theorem ws_never : PS X st (WS C wx kr sNone) := ps_never.wk fun E σ H w => by
  obtain ⟨F, B, n, ds, S, h⟩ := w
  exact h
theorem wss_never : PSs X sts (WS C wx kr sNone) := pss_never.wk fun E σ H w => by
  obtain ⟨F, B, n, ds, S, h⟩ := w
  exact h
/-- an expression ahead of a statement's own doing -/
def sE {α : Type} (m : Mo α) (f : α → MS) : MS := fun n ds => match m n ds with
  | none => none
  | some (.ex C fs, n1) => some (.ex C fs, n1, ds)
  | some (.ok a, n1) => f a n1 ds
theorem wsl_e0 {α β : Type} {R : Hp → Hp → Hp → β → α → Prop} {m : Mo α} {f : α → MS} {F H F0 H0 : Hp} {B B0 : AS} {n : Int} {ds : DS} {σ : L2.St} {E : Ends} (Gr : GoS B0 F0 H0 B F H) (S : Sim C F B σ H n ds) (h : WSL C wx kr (sE m f) F0 B0 n ds H0 E) :
    WL C wx R m F B n ds σ H fun v H1 => ∃ F1 n1 d, GoC C.q F H F1 H1 ∧ Sim C F1 B σ H1 n1 ds ∧ R H F1 H1 v d ∧ WSL C wx kr (f d) F0 B0 n1 ds H0 E := by
  unfold WSL at h
  unfold WL
  cases e : m n ds with
  | none => simp only [sE, e] at h
  | some p =>
    obtain ⟨o, n'⟩ := p
    cases o with
    | ex c fs =>
      simp only [sE, e] at h
      exact fun F' H' od G S' x => h σ F' B H' od (Gr.trans (G.toS S.qB)) S' (x.trS Gr)
    | ok d =>
      intro v F' H' G S' r
      simp only [sE, e] at h
      exact ⟨F', n', d, G, S', r, h⟩
theorem wsl_e {α β : Type} {R : Hp → Hp → Hp → β → α → Prop} {m : Mo α} {f : α → MS} {F H : Hp} {B : AS} {n : Int} {ds : DS} {σ : L2.St} {E : Ends} (S : Sim C F B σ H n ds) (h : WSL C wx kr (sE m f) F B n ds H E) :
    WL C wx R m F B n ds σ H fun v H1 => ∃ F1 n1 d, GoC C.q F H F1 H1 ∧ Sim C F1 B σ H1 n1 ds ∧ R H F1 H1 v d ∧ WSL C wx kr (f d) F B n1 ds H E := wsl_e0 (GoS.refl S.fh) S h
/-- if -/
def sIf (t : Mo Bool) (a b : MS) : MS := sE t fun c => match c with | true => a | false => b
theorem ws_if {c : Expr} {sa sb : List Stmt} {t : Mo Bool} (hc : PT X c (WT C wx t)) (ha : PSs X sa (WS C wx kr ma)) (hb : PSs X sb (WS C wx kr mc)) : PS X (.If c sa sb pos) (WS C wx kr (sIf t ma mc)) := (ps_if hc ha hb).wk fun E σ H w => by
  obtain ⟨F, B, n, ds, S, h⟩ := w
  refine ⟨F, B, n, ds, S, (wsl_e (R := RT) S h).mono fun b H1 ⟨F1, n1, d, G1, S1, r1, h1⟩ => ?_⟩
  have r1 : b = d := r1
  subst r1
  cases b with
  | true => rw [if_pos rfl]; exact ⟨F1, B, n1, ds, S1, h1.tr (G1.toS S.qB) rfl⟩
  | false => rw [if_neg Bool.false_ne_true]; exact ⟨F1, B, n1, ds, S1, h1.tr (G1.toS S.qB) rfl⟩
/-! ### a name is stored -/
theorem Sim.set {F H0 H : Hp} {B : AS} {σ : L2.St} {n : Int} {ds : DS} {i : Nat} {v : V} {d : D} {A : AS} (S : Sim C F B σ H n ds) (r : Rp C.K F H (C.T i) v d A) (f : ∀ a, A a → ¬ B a ∧ F a = none ∧ ∃ o, H a = some o ∧ Mk o = true) (hp : C.pn i = none) (hq : ∀ a, A a → C.q ≠ some a) :
    Sim C F (fun a => B a ∨ A a) (σ.set i (some v)) H n (ds.set i (some d)) where
  fh := S.fh
  bok := fun a ha => by
    rcases ha with h | h
    · exact S.bok a h
    · exact (f a h).2
  cell := fun q h => ⟨.inl (S.cell q h).1, (S.cell q h).2⟩
  pin := fun j w h => by
    have hj : i ≠ j := fun z => by subst z; rw [hp] at h; cases h
    rw [List.getElem?_set_ne hj]
    exact S.pin j w h
  len := by rw [List.length_set, List.length_set, S.len]
  rep := by
    obtain ⟨A0, h1, h2, h3⟩ := S.rep
    classical
    refine ⟨fun j => if j = i then A else A0 j, fun j d' e => ?_, fun j a ha => ?_, fun j j' a ha ha' => ?_⟩
    · by_cases hj : j = i
      · subst hj
        have hl : j < ds.length := by
          have := (List.getElem?_eq_some_iff.mp e).1
          rwa [List.length_set] at this
        rw [List.getElem?_set_self hl] at e
        cases e
        refine ⟨v, List.getElem?_set_self (by rw [S.len]; exact hl), ?_⟩
        simp only [if_true]
        exact r
      · rw [List.getElem?_set_ne (Ne.symm hj)] at e
        obtain ⟨w, e1, r1⟩ := h1 j d' e
        refine ⟨w, by rw [List.getElem?_set_ne (Ne.symm hj)]; exact e1, ?_⟩
        simp only [if_neg hj]
        exact r1
    · by_cases hj : j = i
      · simp only [if_pos hj] at ha
        exact ⟨.inr ha, hq a ha⟩
      · simp only [if_neg hj] at ha
        exact ⟨.inl (h2 j a ha).1, (h2 j a ha).2⟩
    · by_cases hj : j = i <;> by_cases hj' : j' = i
      · rw [hj, hj']
      · simp only [if_pos hj] at ha
        simp only [if_neg hj'] at ha'
        exact ((f a ha).1 (h2 j' a ha').1).elim
      · simp only [if_neg hj] at ha
        simp only [if_pos hj'] at ha'
        exact ((f a ha').1 (h2 j a ha).1).elim
      · simp only [if_neg hj] at ha
        simp only [if_neg hj'] at ha'
        exact h3 j j' a ha ha'
theorem Sim.set0 {F H : Hp} {B : AS} {σ : L2.St} {n : Int} {ds : DS} {i : Nat} {v : V} {d : D} (S : Sim C F B σ H n ds) {A : AS} (r : Rp C.K F H 0 v d A) (hT : C.T i = 0) (hp : C.pn i = none) :
    Sim C F B (σ.set i (some v)) H n (ds.set i (some d)) := by
  have S2 := S.set (H0 := H) (i := i) (A := fun _ => False) (by rw [hT]; exact r.z) (fun _ h => h.elim) hp fun _ h => h.elim
  exact ⟨S2.fh, fun a ha => S2.bok a (.inl ha), fun q h => ⟨(S.cell q h).1, (S.cell q h).2⟩, S2.pin, S2.len, by
    obtain ⟨A0, h1, h2, h3⟩ := S2.rep
    exact ⟨A0, h1, fun i a ha => ⟨(h2 i a ha).1.elim id fun z => z.elim, (h2 i a ha).2⟩, h3⟩⟩
def sSet (i : Nat) (m : M) : MS := sE m fun d n ds => some (.nx, n, ds.set i (some d))
theorem fresh_ok {F H F1 H1 : Hp} {B : AS} {σ : L2.St} {n : Int} {ds : DS} {A : AS} (S : Sim C F B σ H n ds) (f : Fr F1 H H1 A) : (∀ a, A a → ¬ B a ∧ F1 a = none ∧ ∃ o, H1 a = some o ∧ Mk o = true) ∧ ∀ a, A a → C.q ≠ some a :=
  ⟨fun a ha => ⟨fun hb => by
    obtain ⟨_, o, h2, _⟩ := S.bok a hb
    have q := (f a ha).1
    rw [h2] at q
    exact absurd q (by simp), (f a ha).2⟩, fun a ha z => S.nq z (f a ha).1⟩
theorem goS_new {F H F1 H1 : Hp} {B : AS} {σ : L2.St} {n : Int} {ds : DS} {A : AS} (S : Sim C F B σ H n ds) (G : GoC C.q F H F1 H1) (f : Fr F1 H H1 A) : GoS B F H (fun a => B a ∨ A a) F1 H1 :=
  have g := G.toS (B := B) S.qB
  ⟨g.ff, g.fh, g.hh, g.ht, g.nf, fun a ha => ha.elim .inl fun z => .inr (f a z).1, g.dm⟩
theorem ws_set {i : Nat} {x : Str} {e : Expr} {p' : Pos} {m : M} {k : Nat} (he : PE X e (W C wx .fz k m)) (hT : C.T i = k) (hp : C.pn i = none) (hN : X.N.Nodup) (hi : X.N[i]? = some x := by rfl) (hx : Loc X.env.scope x := by first | exact Or.inl rfl | exact Or.inr rfl) (hs : swapsWith e (some (.Name x p')) pos.line X.env = pure false := by rfl) (hf : X.fn x = true ∨ X.env.scope.names.lookup x = some .local := by first | exact .inl rfl | exact .inr rfl | assumption) :
    PS X (.Assign [.Name x p'] e pos) (WS C wx kr (sSet i m)) := (ps_set hN hi hx he hs hf).wk fun E σ H w => by
  obtain ⟨F, B, n, ds, S, h⟩ := w
  refine ⟨F, B, n, ds, S, (wsl_e (R := RV C .fz k) S h).mono fun v H1 ⟨F1, n1, d, G1, S1, ⟨A, r, f⟩, h1⟩ => ?_⟩
  obtain ⟨f1, f2⟩ := fresh_ok S f
  have S2 := S1.set (H0 := H) (by rw [hT]; exact r) f1 hp f2
  exact h1 _ F1 _ H1 (goS_new S G1 f) S2

/-! ### name op= e, a value dropped, return -/
def sAug (i : Nat) (m : M) (o : D → D → Option D) : MS := fun n ds => match ds[i]? with
  | some (some d0) => sE m (fun d n ds => match o d0 d with
    | some d2 => some (.nx, n, ds.set i (some d2))
    | none => none) n ds
  | _ => none
theorem ws_aug {i : Nat} {x : Str} {e : Expr} {op : Operator} {p' : Pos} {m : M} {r : R2} {o : D → D → Option D} (hr : OpR X (inplaceOp op) r) (ho : OpS C.K r o) (he : PE X e (W C wx .bo 0 m)) (hT : C.T i = 0) (hp : C.pn i = none) (hN : X.N.Nodup) (hi : X.N[i]? = some x := by rfl) (hx : Loc X.env.scope x := by first | exact Or.inl rfl | exact Or.inr rfl)
    (hf : X.fn x = true ∨ X.env.scope.names.lookup x = some .local := by first | exact .inl rfl | exact .inr rfl | assumption) : PS X (.AugAssign (.Name x p') op e pos) (WS C wx kr (sAug i m o)) := (ps_aug hN hi hx he (ti := r) (fun pins s σ H x y v u Q I rx ry h => hr pins s σ H x y v u Q I rx ry h) hf).wk fun E σ H w => by
  obtain ⟨F, B, n, ds, S, h⟩ := w
  cases e0 : ds[i]? with
  | none => unfold WSL sAug at h; simp only [e0] at h
  | some x =>
    cases x with
    | none => unfold WSL sAug at h; simp only [e0] at h
    | some d0 =>
      have h' : WSL C wx kr (sE m (fun d n ds => match o d0 d with
        | some d2 => some (.nx, n, ds.set i (some d2))
        | none => none)) F B n ds H E := h.tr (GoS.refl S.fh) (by simp only [sAug, e0])
      obtain ⟨A0, h1, h2, h3⟩ := S.rep
      obtain ⟨v0, hv0, r0⟩ := h1 i d0 e0
      refine ⟨v0, hv0, F, B, n, ds, S, (wsl_e (R := RV C .bo 0) S h').mono fun v H1 ⟨F1, n1, d, G1, S1, ⟨A, r1, f⟩, h4⟩ => ?_⟩
      cases ho2 : o d0 d with
      | none => unfold WSL at h4; simp only [ho2] at h4
      | some d2 =>
        unfold WSL at h4
        simp only [ho2] at h4
        rw [hT] at r0
        have r0' : Rp C.K (rg C.q .bo F1 H1) H1 0 v0 d0 (fun _ => False) := Rp.go0 (g := .bo) (Rp.any S r0 (A' := fun _ => False)) G1
        obtain ⟨w2, hw2, hr2⟩ := ho _ _ v0 v d0 d d2 _ _ (rg_same S1.fh) r0' r1 ho2
        exact hr2 _ (h4 _ F1 B H1 (G1.toS S.qB) (S1.set0 (A := fun _ => False) (Rp.of_sc hw2) hT hp))
def sDrop (m : M) : MS := sE m fun _ n ds => some (.nx, n, ds)
theorem ws_expr {e : Expr} {m : M} {g : Rg} {k : Nat} (he : PE X e (W C wx g k m)) (hs : swapsWith e none pos.line X.env = pure false := by rfl) : PS X (.Expr e pos) (WS C wx kr (sDrop m)) := (ps_expr he hs).wk fun E σ H w => by
  obtain ⟨F, B, n, ds, S, h⟩ := w
  refine ⟨F, B, n, ds, S, (wsl_e (R := RV C g k) S h).mono fun v H1 ⟨F1, n1, d, G1, S1, ⟨A, r1, f⟩, h4⟩ => ?_⟩
  exact h4 _ F1 B H1 (G1.toS S.qB) S1
/-- at a return all that is one's own is let stand -/
def Ctx.stand (C : Ctx) : Ctx := { C with T := fun _ => 0 }
theorem Sim.stand {F H : Hp} {B : AS} {σ : L2.St} {n : Int} {ds : DS} (S : Sim C F B σ H n ds) : ∃ F1, GoS B F H (fun a => C.q = some a) F1 H ∧ Sim C.stand F1 (fun a => C.q = some a) σ H n ds := by
  classical
  let F1 : Hp := fun a => if B a ∧ C.q ≠ some a then H a else F a
  have hA : ∀ a, B a → C.q ≠ some a → F1 a = H a := fun a h h' => if_pos ⟨h, h'⟩
  have hN : ∀ a, ¬ (B a ∧ C.q ≠ some a) → F1 a = F a := fun a h => if_neg h
  have ff : Same F F1 := fun a o e => by
    by_cases h : B a ∧ C.q ≠ some a
    · have q := (S.bok a h.1).1
      rw [q] at e; cases e
    · rw [hN a h]; exact e
  have fh : Same F1 H := fun a o e => by
    by_cases h : B a ∧ C.q ≠ some a
    · rw [hA a h.1 h.2] at e; exact e
    · rw [hN a h] at e; exact S.fh a o e
  refine ⟨F1, ⟨ff, fh, fun _ _ e _ => e, fun _ _ e _ => e, fun a o n e hb => ?_, fun a ha => .inl (S.cell a ha).1, fun _ o e => ⟨o, e⟩⟩, ⟨fh, fun a ha => ?_, fun q hq => ⟨hq, (S.cell q hq).2⟩, S.pin, S.len, ?_⟩⟩
  · rw [hN a fun z => hb z.1]; exact n
  · refine ⟨?_, (S.bok a (S.cell a ha).1).2⟩
    rw [hN a fun z => z.2 ha]
    exact (S.bok a (S.cell a ha).1).1
  · obtain ⟨A, h1, h2, h3⟩ := S.rep
    refine ⟨fun _ _ => False, fun i d e => ?_, fun _ _ h => h.elim, fun _ _ _ h => h.elim⟩
    obtain ⟨v, e1, r⟩ := h1 i d e
    exact ⟨v, e1, r.frz ff fun a o ha e => by rw [hA a (h2 i a ha).1 (h2 i a ha).2]; exact e⟩
def sRet (m : M) : MS := sE m fun d n ds => some (.rt d, n, ds)
theorem ws_ret {e : Expr} {m : M} (he : PE X e (W C.stand wx .fz kr m)) (hs : kr = kr := by rfl) : PS X (.Return (some e) pos) (WS C wx kr (sRet m)) := (ps_ret he).wk fun E σ H w => by
  obtain ⟨F, B, n, ds, S, h⟩ := w
  obtain ⟨F0, G0, S0⟩ := S.stand
  refine ⟨F0, fun a => C.q = some a, n, ds, S0, ?_⟩
  unfold WSL at h
  unfold WL
  cases e : m n ds with
  | none => simp only [sRet, sE, e] at h
  | some p =>
    obtain ⟨o, n'⟩ := p
    cases o with
    | ok d =>
      simp only [sRet, sE, e] at h
      rintro v F' H' G S' ⟨A, r, f⟩
      refine h v (fun a => C.q = some a) F' H' A (G0.trans (G.toS fun _ z => z)) (fun q hq => ⟨(S'.cell q hq).2, (S'.bok q hq).1⟩) r fun a ha => ?_
      exact ⟨.inr (f a ha).1, (f a ha).2.1, fun z => S.nq z (f a ha).1, (f a ha).2.2⟩
    | ex c fs =>
      simp only [sRet, sE, e] at h
      intro F' H' od G S' x
      have G1 : GoC C.q F H F H' := ⟨⟨Same.refl _, fun a o e => G.go.hh a o (S.fh a o e) fun z => by
        have q := (S.bok a (S.cell a z).1).1
        rw [q] at e; exact absurd e (by simp), G.go.hh, G.go.ht, fun a o n _ => n⟩, G.dm⟩
      exact h σ F B H' od (G1.toS S.qB) (S.go G1 fun q hq => (S'.cell q hq).2) x

theorem ws_retN : PS X (.Return none pos) (WS C wx kr (sRet (mC .non))) := ps_retN.wk fun E σ H w => by
  obtain ⟨F, B, n, ds, S, h⟩ := w
  exact h .non B F H (fun _ => False) (GoS.refl S.fh) (fun q hq => ⟨(S.cell q hq).2, (S.bok q (S.cell q hq).1).1⟩) .non fun _ h => h.elim
/-- return of a name whose thing is one's own -/
def sRetV (i : Nat) : MS := fun n ds => match ds[i]? with
  | some (some d) => some (.rt d, n, ds)
  | _ => none
theorem ws_retV {i : Nat} {e : Expr} (h : PE X e (tVar i)) (hT : C.T i = kr) : PS X (.Return (some e) pos) (WS C wx kr (sRetV i)) := (ps_ret h).wk fun E σ H w => by
  obtain ⟨F, B, n, ds, S, h⟩ := w
  unfold WSL sRetV at h
  cases e : ds[i]? with
  | none => simp only [e] at h
  | some x =>
    cases x with
    | none => simp only [e] at h
    | some d =>
      simp only [e] at h
      obtain ⟨A, h1, h2, h3⟩ := S.rep
      obtain ⟨v, hv, r⟩ := h1 i d e
      rw [hT] at r
      exact ⟨v, hv, h v B F H (A i) (GoS.refl S.fh) (fun q hq => ⟨(S.cell q hq).2, (S.bok q (S.cell q hq).1).1⟩) r fun a ha => ⟨.inl (h2 i a ha).1, (S.bok a (h2 i a ha).1).1, (h2 i a ha).2, (S.bok a (h2 i a ha).1).2⟩⟩

/-! ### targets -/
/-- a target: a name; names of a tuple -/
inductive Tg where
  | one (i : Nat) | tup (is : List Nat)
def bindL : List Nat → List D → DS → Option DS
  | [], [], s => some s
  | i :: is, d :: ds, s => bindL is ds (s.set i (some d))
  | _, _, _ => none
def Tg.bind : Tg → D → DS → Option DS
  | .one i, d, s => some (s.set i (some d))
  | .tup is, .tup ds, s => bindL is ds s
  | _, _, _ => none
def Tg.slots : Tg → List Nat
  | .one i => [i]
  | .tup is => is
/-- what a target's store leaves -/
def GT (C : Ctx) (tg : Tg) : TG := fun v σ H Q => ∃ F B n ds d ds', Sim C F B σ H n ds ∧ Rp C.K F H 0 v d (fun _ => False) ∧ tg.bind d ds = some ds' ∧
  ∀ σ', Sim C F B σ' H n ds' → σ'.length = σ.length → (∀ i, i ∉ tg.slots → σ'[i]? = σ[i]?) → Q σ' H
def GTs (C : Ctx) (is : List Nat) : TGs := fun vs σ H Q => ∃ F B n ds as ds', Sim C F B σ H n ds ∧ RpL C.K F H vs as ∧ bindL is as ds = some ds' ∧
  ∀ σ', Sim C F B σ' H n ds' → σ'.length = σ.length → (∀ i, i ∉ is → σ'[i]? = σ[i]?) → Q σ' H
def SlotOk (C : Ctx) (i : Nat) : Prop := C.T i = 0 ∧ C.pn i = none
theorem _root_.L2.PG.wk {e : Expr} {t t' : TG} (h : PG X e t) (w : ∀ v σ H Q, t' v σ H Q → t v σ H Q) : PG X e t' := ⟨fun pins s σ H v u Q I r q => h.run pins s σ H v u Q I r (w _ _ _ _ q)⟩
theorem _root_.L2.PGs.wk {es : List Expr} {t t' : TGs} (h : PGs X es t) (w : ∀ vs σ H Q, t' vs σ H Q → t vs σ H Q) : PGs X es t' := ⟨fun pins s σ H v u Q I r q => h.run pins s σ H v u Q I r (w _ _ _ _ q)⟩
theorem vg_name {i : Nat} {x : Str} {p : Pos} (hs : SlotOk C i) (hN : X.N.Nodup) (hi : X.N[i]? = some x := by rfl) (hx : Loc X.env.scope x := by first | exact Or.inl rfl | exact Or.inr rfl) (hf : X.fn x = true ∨ X.env.scope.names.lookup x = some .local := by first | exact .inl rfl | exact .inr rfl | assumption) : PG X (.Name x p) (GT C (.one i)) :=
  (pg_name hN hi hx hf).wk fun v σ H Q w => by
    obtain ⟨F, B, n, ds, d, ds', S, r, e, q⟩ := w
    cases e
    exact q _ (S.set0 r hs.1 hs.2) (List.length_set) fun j hj => List.getElem?_set_ne (fun z => hj (by simp [Tg.slots, z]))
theorem vgs_nil : PGs X [] (GTs C []) := pgs_nil.wk fun vs σ H Q w => by
  obtain ⟨F, B, n, ds, as, ds', S, r, e, q⟩ := w
  cases as with
  | nil =>
    cases e
    have : vs = [] := List.eq_nil_of_length_eq_zero r.1
    exact ⟨this, q σ S rfl fun _ _ => rfl⟩
  | cons a as => cases e
theorem vgs_cons {i : Nat} {is : List Nat} {x : Str} {p : Pos} {es : List Expr} (hs : SlotOk C i) (hN : X.N.Nodup) (h2 : PGs X es (GTs C is)) (hi : X.N[i]? = some x := by rfl) (hx : Loc X.env.scope x := by first | exact Or.inl rfl | exact Or.inr rfl) (hf : X.fn x = true ∨ X.env.scope.names.lookup x = some .local := by first | exact .inl rfl | exact .inr rfl | assumption) :
    PGs X (.Name x p :: es) (GTs C (i :: is)) := (pgs_cons (pg_name hN hi hx hf) h2).wk fun vs σ H Q w => by
  obtain ⟨F, B, n, ds, as, ds', S, r, e, q⟩ := w
  cases as with
  | nil => cases e
  | cons a as =>
    cases vs with
    | nil => cases r.1
    | cons v vs =>
      obtain ⟨r1, r2⟩ := r.tail
      refine ⟨v, vs, rfl, F, B, n, _, as, ds', S.set0 r1 hs.1 hs.2, r2, e, fun σ' S' hl hi' => q σ' S' (hl.trans List.length_set) fun j hj => ?_⟩
      rw [List.mem_cons, not_or] at hj
      rw [hi' j hj.2, List.getElem?_set_ne (Ne.symm hj.1)]
theorem bindL_len : ∀ {is : List Nat} {ds : List D} {s s' : DS}, bindL is ds s = some s' → is.length = ds.length
  | [], [], _, _, _ => rfl
  | i :: is, d :: ds, s, s', h => by
    rw [List.length_cons, List.length_cons, bindL_len (is := is) (ds := ds) h]
  | [], _ :: _, _, _, h => by cases h
  | _ :: _, [], _, _, h => by cases h
theorem vg_tup {es : List Expr} {k : Nat} {is : List Nat} {p : Pos} (hc : X.calm = true) (h : PGs X es (GTs C is)) (hn : (assignEach es X.env).length = is.length := by rfl) (hst : (assignEach es X.env).findIdx? (·.1) = none := by rfl) (hK : X.K = C.K := by rfl) : PG X (.Tuple es k p) (GT C (.tup is)) :=
  (pg_tup hc h hn hst).wk fun v σ H Q w => by
    obtain ⟨F, B, n, ds, d, ds', S, r, e, q⟩ := w
    cases d with
    | tup as =>
      have hl := bindL_len (show bindL is as ds = some ds' from e)
      cases r with
      | tup hh l c =>
        rw [hK]
        exact ⟨_, _, rfl, hh, l.trans hl.symm, F, B, n, ds, as, ds', S, ⟨l, c⟩, e, q⟩
    | _ => cases e
/-- target = e -/
def sAsg (tg : Tg) (m : M) : MS := sE m fun d n ds => match tg.bind d ds with
  | some ds' => some (.nx, n, ds')
  | none => none
theorem ws_asg {t e : Expr} {tg : Tg} {m : M} (he : PE X e (W C wx .fz 0 m)) (hg : PG X t (GT C tg)) (hs : swapsWithSole [t] e pos.line X.env = pure false := by rfl) (hw : swappedStores [t] e X.env = pure none := by rfl) (h1 : (assignEach [t] X.env).map (·.2) = [assign t X.env] := by rfl) : PS X (.Assign [t] e pos) (WS C wx kr (sAsg tg m)) := (ps_asg he hg hs hw h1).wk fun E σ H w => by
  obtain ⟨F, B, n, ds, S, h⟩ := w
  refine ⟨F, B, n, ds, S, (wsl_e (R := RV C .fz 0) S h).mono fun v H1 ⟨F1, n1, d, G1, S1, ⟨A, r1, f⟩, h4⟩ => ?_⟩
  cases e : tg.bind d ds with
  | none => unfold WSL at h4; simp only [e] at h4
  | some ds' =>
    unfold WSL at h4
    simp only [e] at h4
    exact ⟨F1, B, n1, ds, d, ds', S1, r1.z, e, fun σ' S' _ _ => h4 σ' F1 B H1 (G1.toS S.qB) S'⟩
/-- a, b = x, y -/
def sPar (i j : Nat) (ms : Mo (List D)) : MS := sE ms fun as n ds => match as with
  | [a, b] => some (.nx, n, (ds.set i (some a)).set j (some b))
  | _ => none
theorem ws_par {i j : Nat} {x y : Str} {a b : Expr} {px py pt : Pos} {kt k2 : Nat} {pt2 : Pos} {ms : Mo (List D)} (hi : SlotOk C i) (hj : SlotOk C j)
    (h : PS X (.Assign [.Tuple [.Name x px, .Name y py] kt pt] (.Tuple [a, b] k2 pt2) pos) (tPar i j (WA C wx .fz ms))) : PS X (.Assign [.Tuple [.Name x px, .Name y py] kt pt] (.Tuple [a, b] k2 pt2) pos) (WS C wx kr (sPar i j ms)) := h.wk fun E σ H w => by
  obtain ⟨F, B, n, ds, S, h⟩ := w
  refine ⟨F, B, n, ds, S, (wsl_e (R := RA C .fz) S h).mono fun vs H1 ⟨F1, n1, as, G1, S1, r1, h4⟩ => ?_⟩
  match as with
  | [d1, d2] =>
    obtain ⟨v, v', rfl, ra, rb⟩ := RpL.two r1
    exact ⟨v, v', rfl, h4 _ F1 B H1 (G1.toS S.qB) ((S1.set0 ra hi.1 hi.2).set0 rb hj.1 hj.2)⟩
  | [] => exact h4.elim
  | [_] => exact h4.elim
  | _ :: _ :: _ :: _ => exact h4.elim
end
end GW

namespace GW
open PySem L2

/-! ### what is walked -/
structure Later (F H F' H' : Hp) : Prop where
  ff : Same F F'
  fh : Same F' H'
  ht : ∀ a o, H a = some o → Mk o = false → H' a = some o
  dm : ∀ a o, H a = some o → ∃ o', H' a = some o'
theorem Later.refl {F H : Hp} (h : Same F H) : Later F H F H := ⟨Same.refl _, h, fun _ _ e _ => e, fun _ o e => ⟨o, e⟩⟩
theorem Later.trans {F H F1 H1 F2 H2 : Hp} (a : Later F H F1 H1) (b : Later F1 H1 F2 H2) : Later F H F2 H2 :=
  ⟨a.ff.trans b.ff, b.fh, fun x o e n => b.ht x o (a.ht x o e n) n, fun x o e => by
    obtain ⟨o', e'⟩ := a.dm x o e
    exact b.dm x o' e'⟩
theorem GoC.later {q : Option Addr} {F H F1 H1 : Hp} (g : GoC q F H F1 H1) : Later F H F1 H1 := ⟨g.go.ff, g.go.fh, g.go.ht, g.dm⟩
theorem GoS.later {B B1 : AS} {F H F1 H1 : Hp} (g : GoS B F H B1 F1 H1) : Later F H F1 H1 := ⟨g.ff, g.fh, g.ht, g.dm⟩
theorem len_none {α : Type} {l : List α} {i : Nat} (h : l.length = i) : l[i]? = none := by subst h; simp
def Yld (K : PySem.W.Frag) (F H : Hp) (J : It) (ds : List D) : Prop := ∀ F' H', Later F H F' H' → ∀ i,
  (∀ d, ds[i]? = some d → J.go i H' ∧ ∀ x H'', J.yld i H' x H'' → (H'' = H' ∨ ∃ p vs, H' p = none ∧ H'' = upd H' p (.tup vs)) ∧ Rp K F' H'' 0 x d (fun _ => False)) ∧ (ds.length = i → J.stop i H')
abbrev WI (C : Ctx) (wx : WX) (m : Mo (List D)) : TI := WW C wx (fun _ F' H' J as => Yld C.K F' H' J as) m
theorem _root_.L2.PI.wk {X : Cx} {tg iter : Expr} {t t' : TI} (h : PI X tg iter t) (w : ∀ σ H Q, t' σ H Q → t σ H Q) : PI X tg iter t' := ⟨fun pins s σ H R I q => h.run pins s σ H R I (w _ _ _ q)⟩
section
variable {X : Cx} {C : Ctx} {wx : WX} {kr k : Nat} {e tg : Expr} {es : List Expr} {p pos : Pos} {m : M} {ms : Mo (List D)}
def mItL (m : M) : Mo (List D) := mb m fun d => ret (match d with | .lst ds => some ds | _ => none)
def mItT (m : M) : Mo (List D) := mb m fun d => ret (match d with | .tup ds => some ds | _ => none)
def signsD (x : Str) : List D := x.cps.toList.map fun c => .str ⟨#[c]⟩
def mItS (m : M) : Mo (List D) := mb m fun d => ret (match d with | .str x => some (signsD x) | _ => none)
theorem vi_list (he : PE X e (W C wx .fz 0 m)) (hK : X.K = C.K := by rfl) : PI X tg e (WI C wx (mItL m)) := (pi_list he).wk fun σ H Q w => by
  obtain ⟨F, B, n, ds, S, h⟩ := w
  refine ⟨F, B, n, ds, S, (h.bind fun F1 H1 F2 H2 v d G r => r).mono fun v H1 ⟨F1, n1, d, G1, S1, ⟨A, r1, f⟩, h1⟩ => ?_⟩
  obtain ⟨as, e, q⟩ := h1.retE
  cases r1 with
  | @lst A' a vs as' hh l c =>
    cases e
    rw [hK]
    refine ⟨a, rfl, ⟨vs, sqL_mono hh S1.fh⟩, q _ F1 H1 (GoC.refl S1.fh) S1 fun F' H' L i => ⟨fun d hd => ?_, fun hn0 => (fun hn => ?_) (len_none hn0)⟩⟩
    · have hq : SqL C.K H' a vs := sqL_mono hh (L.ff.trans L.fh)
      have hv : vs[i]? = some (vs[i]'(by have := (List.getElem?_eq_some_iff.mp hd).1; omega)) := by
        have := (List.getElem?_eq_some_iff.mp hd).1
        simp [l, this]
      refine ⟨⟨vs, _, hq, hv⟩, fun x H'' y => ?_⟩
      obtain ⟨y1, y2⟩ := y
      subst y1
      have := y2 vs hq
      exact ⟨.inl rfl, (Rp.z (c i x d this hd)).mono L.ff L.ht fun _ _ h => h.elim⟩
    · refine ⟨vs, sqL_mono hh (L.ff.trans L.fh), ?_⟩
      rw [l]
      exact List.getElem?_eq_none_iff.mp hn
  | _ => cases e
theorem vi_tup (he : PE X e (W C wx .fz 0 m)) (hK : X.K = C.K := by rfl) : PI X tg e (WI C wx (mItT m)) := (pi_tup he).wk fun σ H Q w => by
  obtain ⟨F, B, n, ds, S, h⟩ := w
  refine ⟨F, B, n, ds, S, (h.bind fun F1 H1 F2 H2 v d G r => r).mono fun v H1 ⟨F1, n1, d, G1, S1, ⟨A, r1, f⟩, h1⟩ => ?_⟩
  obtain ⟨as, e, q⟩ := h1.retE
  cases r1 with
  | @tup k' A' a vs as' hh l c =>
    cases e
    rw [hK]
    refine ⟨a, rfl, ⟨vs, hh⟩, q _ F1 H1 (GoC.refl S1.fh) S1 fun F' H' L i => ⟨fun d hd => ?_, fun hn0 => (fun hn => ?_) (len_none hn0)⟩⟩
    · have hq : SqT C.K H' a vs := sqT_mono hh L.ht
      have hv : vs[i]? = some (vs[i]'(by have := (List.getElem?_eq_some_iff.mp hd).1; omega)) := by
        have := (List.getElem?_eq_some_iff.mp hd).1
        simp [l, this]
      refine ⟨⟨vs, _, hq, hv⟩, fun x H'' y => ?_⟩
      obtain ⟨y1, y2⟩ := y
      subst y1
      have := y2 vs hq
      exact ⟨.inl rfl, (Rp.z (c i x d this hd)).mono L.ff L.ht fun _ _ h => h.elim⟩
    · refine ⟨vs, sqT_mono hh L.ht, ?_⟩
      rw [l]
      exact List.getElem?_eq_none_iff.mp hn
  | _ => cases e
theorem vi_str {g : Rg} (he : PE X e (W C wx g 0 m)) : PI X tg e (WI C wx (mItS m)) := (pi_str he).wk fun σ H Q w => by
  obtain ⟨F, B, n, ds, S, h⟩ := w
  refine ⟨F, B, n, ds, S, (h.bind fun F1 H1 F2 H2 v d G r => r).mono fun v H1 ⟨F1, n1, d, G1, S1, ⟨A, r1, f⟩, h1⟩ => ?_⟩
  obtain ⟨as, e, q⟩ := h1.retE
  cases r1 with
  | @str k' A' x =>
    cases e
    refine ⟨x, rfl, q _ F1 H1 (GoC.refl S1.fh) S1 fun F' H' L i => ⟨fun d hd => ?_, fun hn0 => (fun hn => ?_) (len_none hn0)⟩⟩
    · unfold signsD at hd
      rw [List.getElem?_map] at hd
      cases hc : x.cps.toList[i]? with
      | none => rw [hc] at hd; cases hd
      | some cc =>
        rw [hc] at hd
        cases hd
        have hlt : i < x.cps.size := by
          have := (List.getElem?_eq_some_iff.mp hc).1
          simpa using this
        refine ⟨hlt, fun v H'' y => ?_⟩
        obtain ⟨y1, c2, y2, y3⟩ := y
        subst y1 y3
        have : c2 = cc := by
          have h3 : x.cps[i]? = some cc := by rw [← Array.getElem?_toList]; exact hc
          rw [h3] at y2; exact (Option.some.inj y2).symm
        subst this
        exact ⟨.inl rfl, .str⟩
    · unfold signsD at hn
      have h1 := List.getElem?_eq_none_iff.mp hn
      have h2 : x.cps.size ≤ i := by simpa using h1
      exact h2
  | _ => cases e
def rngD (lo : Int) (n : Nat) : List D := (List.range n).map fun (i : Nat) => .int (lo + (i : Int))
noncomputable def r62 (i : Int) : Bool := dec (-4611686018427387904 ≤ i ∧ i < 4611686018427387904)
noncomputable def oRng : List D → Option (List D)
  | [.int j] => if r62 j = true then some (rngD 0 j.toNat) else none
  | [.int i, .int j] => if r62 i = true ∧ r62 j = true then some (rngD i (j - i).toNat) else none
  | _ => none
noncomputable def mRng (ms : Mo (List D)) : Mo (List D) := mb ms fun ds => ret (oRng ds)
theorem yld_rng {F H : Hp} {lo : Int} {n : Nat} : Yld C.K F H (Itr lo n) (rngD lo n) := fun F' H' L i => by
  have hl : (rngD lo n).length = n := by unfold rngD; simp
  refine ⟨fun d hd => ?_, fun hn0 => (fun hn => ?_) (len_none hn0)⟩
  · have hlt : i < n := by
      have := (List.getElem?_eq_some_iff.mp hd).1
      omega
    have he : d = .int (lo + (i : Int)) := by
      unfold rngD at hd
      rw [List.getElem?_map, List.getElem?_range hlt] at hd
      cases hd; rfl
    subst he
    refine ⟨hlt, fun x H'' y => ?_⟩
    obtain ⟨y1, y2⟩ := y
    subst y1 y2
    exact ⟨.inl rfl, .int⟩
  · have := List.getElem?_eq_none_iff.mp hn
    exact hl ▸ this
theorem r62_ok {i : Int} (h : r62 i = true) : -(2 ^ 62) ≤ i ∧ i < 2 ^ 62 := by
  unfold r62 at h
  have := dec_iff.mp h
  omega
theorem vi_range1 {a : Expr} (hm : X.mg "range" = none) (ha : PA X [a] (WA C wx .bo ms)) (hg : Gl X "range" := by rfl) (hs : starEach [a] X.env = [(false, eval a X.env)] := by rfl) (hlen : LenM ms 1 := by exact LenM.cons LenM.nil) : PI X tg (.Call (.Name "range" p) [a] [] pos) (WI C wx (mRng ms)) := (pi_range1 hg hm ha hs).wk fun σ H Q w => by
  obtain ⟨F, B, n, ds, S, h⟩ := w
  refine ⟨F, B, n, ds, S, WL.strong hlen ((h.bind (R := fun H F' H' vs as => RA C .bo H F' H' vs as ∧ as.length = 1) fun F1 H1 F2 H2 v d G r => r).mono fun vs H1 ⟨F1, n1, as, G1, S1, ⟨r1, hl⟩, h1⟩ => ?_)⟩
  obtain ⟨is, e, q⟩ := h1.retE
  match as, hl with
  | [d], _ =>
    obtain ⟨v, rfl, r⟩ := RpL.one r1
    cases d with
    | int j =>
      simp only [oRng] at e
      split at e
      · rename_i hj
        cases e
        exact ⟨j, by rw [r.int_], (r62_ok hj).1, (r62_ok hj).2, q _ F1 H1 (GoC.refl S1.fh) S1 yld_rng⟩
      · cases e
    | _ => cases e
theorem vi_range2 {a b : Expr} (hm : X.mg "range" = none) (ha : PA X [a, b] (WA C wx .bo ms)) (hg : Gl X "range" := by rfl) (hs : starEach [a, b] X.env = [(false, eval a X.env), (false, eval b X.env)] := by rfl) (hs2 : starEach [b] X.env = [(false, eval b X.env)] := by rfl) (hlen : LenM ms 2 := by exact LenM.cons (LenM.cons LenM.nil)) : PI X tg (.Call (.Name "range" p) [a, b] [] pos) (WI C wx (mRng ms)) := (pi_range2 hg hm ha hs hs2).wk fun σ H Q w => by
  obtain ⟨F, B, n, ds, S, h⟩ := w
  refine ⟨F, B, n, ds, S, WL.strong hlen ((h.bind (R := fun H F' H' vs as => RA C .bo H F' H' vs as ∧ as.length = 2) fun F1 H1 F2 H2 v d G r => r).mono fun vs H1 ⟨F1, n1, as, G1, S1, ⟨r1, hl⟩, h1⟩ => ?_)⟩
  obtain ⟨is, e, q⟩ := h1.retE
  match as, hl with
  | [d, d'], _ =>
    obtain ⟨v, v', rfl, r, r'⟩ := RpL.two r1
    cases d with
    | int i =>
      cases d' with
      | int j =>
        simp only [oRng] at e
        split at e
        · rename_i hj
          cases e
          exact ⟨i, j, by rw [r.int_, r'.int_], ⟨(r62_ok hj.1).1, (r62_ok hj.1).2, (r62_ok hj.2).1, (r62_ok hj.2).2⟩, q _ F1 H1 (GoC.refl S1.fh) S1 yld_rng⟩
        · cases e
      | _ => cases e
    | _ => cases e

/-! ### for -/
def forL (tg : Tg) (body : MS) : List D → MS
  | [] => sNx
  | d :: r => fun n ds => match tg.bind d ds with
    | none => none
    | some ds1 => match body n ds1 with
      | none => none
      | some (.nx, n', ds') => forL tg body r n' ds'
      | some (.ct, n', ds') => forL tg body r n' ds'
      | some (.bk, n', ds') => some (.nx, n', ds')
      | some (.rt d, n', ds') => some (.rt d, n', ds')
      | some (.ex c fs, n', ds') => some (.ex c fs, n', ds')
def sFor (mi : Mo (List D)) (tg : Tg) (body : MS) : MS := sE mi fun as => forL tg body as
theorem Sim.yld {F H H' : Hp} {B : AS} {σ : L2.St} {n : Int} {ds : DS} (S : Sim C F B σ H n ds) (h : H' = H ∨ ∃ p vs, H p = none ∧ H' = upd H p (.tup vs)) : GoC C.q F H F H' ∧ Sim C F B σ H' n ds := by
  rcases h with h | ⟨p, vs, hp, h⟩
  · subst h; exact ⟨GoC.refl S.fh, S⟩
  · subst h; exact S.newO hp
theorem ws_for {iter : Expr} {body : List Stmt} {mi : Mo (List D)} {t : Tg} {mbody : MS} (hp : PassesOwn (model X.prog X.w) X.A X.env X.xe) (hi : PI X tg iter (WI C wx mi)) (hg : PG X tg (GT C t)) (hb : PSs X body (WS C wx kr mbody)) (hc : X.calm = true := by rfl)
    (hs : ∀ x, foldedSetIterable iter X.env x = pure x := by intro _; rfl) : PS X (.For tg iter body [] pos) (WS C wx kr (sFor mi t mbody)) := (ps_for hp hc hi hg hb hs).wk fun E σ H w => by
  obtain ⟨F, B, n, ds, S, h⟩ := w
  refine ⟨F, B, n, ds, S, (wsl_e S h).mono fun J H1 ⟨F1, n1, as, G1, S1, y, h1⟩ => ?_⟩
  refine ⟨fun i m σi Hi => m + i = as.length ∧ ∃ Fi Bi ni dsi, GoS B F H Bi Fi Hi ∧ Later F1 H1 Fi Hi ∧ Sim C Fi Bi σi Hi ni dsi ∧ WSL C wx kr (forL t mbody (as.drop i)) F B ni dsi H E, ⟨as.length, rfl, F1, B, n1, ds, G1.toS S.qB, Later.refl S1.fh, S1, by rw [List.drop_zero]; exact h1⟩, ?_⟩
  rintro i m σi Hi ⟨hm, Fi, Bi, ni, dsi, Gi, Li, Si, hi⟩
  cases hd : as[i]? with
  | none =>
    have hlen := List.getElem?_eq_none_iff.mp hd
    left
    refine ⟨(y Fi Hi Li i).2 (by have := List.getElem?_eq_none_iff.mp hd; omega), ?_⟩
    rw [List.drop_eq_nil_of_le hlen] at hi
    exact hi σi Fi Bi Hi Gi Si
  | some d =>
    have hlt := (List.getElem?_eq_some_iff.mp hd).1
    right
    obtain ⟨hgo, hy⟩ := (y Fi Hi Li i).1 d hd
    refine ⟨hgo, fun σ' H' => (m - 1) + (i + 1) = as.length ∧ ∃ Fi Bi ni dsi, GoS B F H Bi Fi H' ∧ Later F1 H1 Fi H' ∧ Sim C Fi Bi σ' H' ni dsi ∧ WSL C wx kr (forL t mbody (as.drop (i + 1))) F B ni dsi H E, fun σ' H' hn => ⟨m - 1, by omega, hn⟩, fun x H' hx => ?_⟩
    obtain ⟨hH, rx⟩ := hy x H' hx
    obtain ⟨G2, S2⟩ := Si.yld hH
    have hdrop : as.drop i = d :: as.drop (i + 1) := by
      rw [List.drop_eq_getElem_cons hlt]
      rw [(List.getElem?_eq_some_iff.mp hd).2]
    rw [hdrop] at hi
    cases hbd : t.bind d dsi with
    | none => unfold WSL at hi; simp only [forL, hbd] at hi
    | some ds1 =>
      refine ⟨Fi, Bi, ni, dsi, d, ds1, S2, rx, hbd, fun σ2 S3 _ _ => ?_⟩
      refine ⟨Fi, Bi, ni, ds1, S3, ?_⟩
      have Gn : GoS B F H Bi Fi H' := Gi.trans (G2.toS Si.qB)
      have Ln : Later F1 H1 Fi H' := Li.trans G2.later
      have hi0 := hi
      unfold WSL at hi ⊢
      cases eb : mbody ni ds1 with
      | none => simp only [forL, hbd, eb] at hi
      | some pp =>
        obtain ⟨fl, n', ds'⟩ := pp
        cases fl with
        | nx => exact fun σ' F' B' H'' G3 S4 => ⟨by omega, F', B', n', ds', Gn.trans G3, Ln.trans G3.later, S4, WSL.tr (GoS.refl S.fh) (by simp only [forL, hbd, eb]) hi0⟩
        | ct => exact fun σ' F' B' H'' G3 S4 => ⟨by omega, F', B', n', ds', Gn.trans G3, Ln.trans G3.later, S4, WSL.tr (GoS.refl S.fh) (by simp only [forL, hbd, eb]) hi0⟩
        | bk =>
          simp only [forL, hbd, eb] at hi
          exact fun σ' F' B' H'' G3 S4 => hi σ' F' B' H'' (Gn.trans G3) S4
        | rt d =>
          simp only [forL, hbd, eb] at hi
          exact RtP.tr Gn hi
        | ex c fs =>
          simp only [forL, hbd, eb] at hi
          exact fun σ' F' B' H'' od G3 S4 x => hi σ' F' B' H'' od (Gn.trans G3) S4 (x.trS Gn)

/-! ### while -/
def whileL (t : Mo Bool) (body : MS) : Nat → MS
  | 0 => sNone
  | k + 1 => sE t fun b => match b with
    | false => sNx
    | true => fun n ds => match body n ds with
      | none => none
      | some (.nx, n', ds') => whileL t body k n' ds'
      | some (.ct, n', ds') => whileL t body k n' ds'
      | some (.bk, n', ds') => some (.nx, n', ds')
      | some (.rt d, n', ds') => some (.rt d, n', ds')
      | some (.ex c fs, n', ds') => some (.ex c fs, n', ds')
@[irreducible] def FUEL : Nat := 2 ^ 100000
def sWhile (t : Mo Bool) (body : MS) : MS := whileL t body FUEL
theorem ws_whileK {c : Expr} {body : List Stmt} {t : Mo Bool} {mbody : MS} (fuel : Nat) (hp : PassesOwn (model X.prog X.w) X.A X.env X.xe) (hc : PT X c (WT C wx t)) (hb : PSs X body (WS C wx kr mbody)) : PS X (.While c body [] pos) (WS C wx kr (whileL t mbody fuel)) := (ps_while hp hc hb).wk fun E σ H w => by
  obtain ⟨F, B, n, ds, S, h⟩ := w
  refine ⟨fun m σi Hi => ∃ Fi Bi ni dsi, GoS B F H Bi Fi Hi ∧ Sim C Fi Bi σi Hi ni dsi ∧ WSL C wx kr (whileL t mbody m) F B ni dsi H E, ⟨fuel, F, B, n, ds, GoS.refl S.fh, S, h⟩, ?_⟩
  rintro m σi Hi ⟨Fi, Bi, ni, dsi, Gi, Si, hi⟩
  cases m with
  | zero => exact hi.elim
  | succ m =>
    refine ⟨Fi, Bi, ni, dsi, Si, (wsl_e0 (R := RT) Gi Si hi).mono fun b H1 ⟨F1, n1, d, G1, S1, r1, h1⟩ => ?_⟩
    have r1 : b = d := r1
    subst r1
    have Gn : GoS B F H Bi F1 H1 := Gi.trans (G1.toS Si.qB)
    cases b with
    | false =>
      rw [if_neg Bool.false_ne_true]
      exact h1 σi F1 Bi H1 Gn S1
    | true =>
      rw [if_pos rfl]
      refine ⟨fun σ' H' => ∃ Fi Bi ni dsi, GoS B F H Bi Fi H' ∧ Sim C Fi Bi σ' H' ni dsi ∧ WSL C wx kr (whileL t mbody m) F B ni dsi H E, fun σ' H' hn => ⟨m, Nat.lt_succ_self m, hn⟩, F1, Bi, n1, dsi, S1, ?_⟩
      have h1' := h1
      unfold WSL at h1 ⊢
      cases eb : mbody n1 dsi with
      | none => simp only [eb] at h1
      | some pp =>
        obtain ⟨fl, n', ds'⟩ := pp
        cases fl with
        | nx => exact fun σ' F' B' H'' G3 S4 => ⟨F', B', n', ds', Gn.trans G3, S4, WSL.tr (GoS.refl S.fh) (by simp only [eb]) h1'⟩
        | ct => exact fun σ' F' B' H'' G3 S4 => ⟨F', B', n', ds', Gn.trans G3, S4, WSL.tr (GoS.refl S.fh) (by simp only [eb]) h1'⟩
        | bk =>
          simp only [eb] at h1
          exact fun σ' F' B' H'' G3 S4 => h1 σ' F' B' H'' (Gn.trans G3) S4
        | rt d =>
          simp only [eb] at h1
          exact RtP.tr Gn h1
        | ex c fs =>
          simp only [eb] at h1
          exact fun σ' F' B' H'' od G3 S4 x => h1 σ' F' B' H'' od (Gn.trans G3) S4 (x.trS Gn)
theorem ws_while {c : Expr} {body : List Stmt} {t : Mo Bool} {mbody : MS} (hp : PassesOwn (model X.prog X.w) X.A X.env X.xe) (hc : PT X c (WT C wx t)) (hb : PSs X body (WS C wx kr mbody)) : PS X (.While c body [] pos) (WS C wx kr (sWhile t mbody)) := ws_whileK FUEL hp hc hb
end
end GW

namespace GW
open PySem L2 PyProof.Rows
abbrev wx0 : WX := fun _ _ _ _ => False
section
variable {X : Cx} {C : Ctx} {wx : WX} {kr k : Nat} {e tg iter elt : Expr} {es : List Expr} {p pos : Pos} {m : M} {ms : Mo (List D)}
/-! ### comprehensions -/
def wipeD (ds : DS) : List Nat → DS
  | [] => ds
  | v :: vs => (wipeD ds vs).set v none
theorem Sim.wipe {F H : Hp} {B : AS} {σ : L2.St} {n : Int} {ds : DS} (S : Sim C F B σ H n ds) {vs : List Nat} (hv : ∀ i ∈ vs, C.pn i = none) : Sim C F B (L2.wipe σ vs) H n (wipeD ds vs) := by
  induction vs with
  | nil => exact S
  | cons v vs ih =>
    have S2 := ih fun i hi => hv i (List.mem_cons_of_mem _ hi)
    refine ⟨S2.fh, S2.bok, S2.cell, fun i w h => ?_, ?_, ?_⟩
    · have hne : v ≠ i := fun z => by
        have := hv v List.mem_cons_self
        rw [z, h] at this; cases this
      show ((L2.wipe σ vs).set v none)[i]? = _
      rw [List.getElem?_set_ne hne]
      exact S2.pin i w h
    · show ((L2.wipe σ vs).set v none).length = ((wipeD ds vs).set v none).length
      rw [List.length_set, List.length_set]; exact S2.len
    · obtain ⟨A, h1, h2, h3⟩ := S2.rep
      refine ⟨A, fun i d e => ?_, h2, h3⟩
      have e : ((wipeD ds vs).set v none)[i]? = some (some d) := e
      by_cases hi : v = i
      · subst hi
        by_cases hl : v < (wipeD ds vs).length
        · rw [List.getElem?_set_self hl] at e; cases e
        · rw [List.getElem?_eq_none (by simpa using hl)] at e; cases e
      · rw [List.getElem?_set_ne hi] at e
        obtain ⟨w, e1, r⟩ := h1 i d e
        exact ⟨w, by show ((L2.wipe σ vs).set v none)[i]? = _; rw [List.getElem?_set_ne hi]; exact e1, r⟩
theorem wipe_get {σ : L2.St} {i : Nat} : ∀ {vs : List Nat}, i ∈ vs → i < σ.length → (L2.wipe σ vs)[i]? = some none
  | v :: vs, hm, hl => by
    show ((L2.wipe σ vs).set v none)[i]? = _
    by_cases hv : v = i
    · subst hv
      rw [List.getElem?_set_self (by rw [wipe_length]; exact hl)]
    · rw [List.getElem?_set_ne hv]
      rcases List.mem_cons.mp hm with z | z
      · exact (hv z.symm).elim
      · exact wipe_get z hl
theorem wipe_same {σ σ2 : L2.St} {vs : List Nat} (hl : σ2.length = (L2.wipe σ vs).length) (h : ∀ i, i ∉ vs → σ2[i]? = (L2.wipe σ vs)[i]?) : L2.wipe σ2 vs = L2.wipe σ vs := by
  rw [wipe_length] at hl
  refine List.ext_getElem? fun i => ?_
  by_cases hi : i ∈ vs
  · by_cases hlt : i < σ.length
    · rw [wipe_get hi (by rw [hl]; exact hlt), wipe_get hi hlt]
    · rw [List.getElem?_eq_none (by rw [wipe_length, hl]; omega), List.getElem?_eq_none (by rw [wipe_length]; omega)]
  · rw [wipe_out hi, h i hi]
def compL (tg : Tg) (tt : Mo Bool) (me : M) (vs : List Nat) : List D → Mo (List D)
  | [] => ret (some [])
  | d :: r => fun n ds => match tg.bind d (wipeD ds vs) with
    | none => none
    | some ds1 => match tt n ds1 with
      | some (.ok true, n1) => (match me n1 ds1 with
        | some (.ok y, n2) => (match compL tg tt me vs r n2 ds with
          | some (.ok ys, n3) => some (.ok (y :: ys), n3)
          | _ => none)
        | _ => none)
      | some (.ok false, n1) => compL tg tt me vs r n1 ds
      | _ => none
def mLc (mi : Mo (List D)) (tg : Tg) (tt : Mo Bool) (me : M) (vs : List Nat) : M := mb mi fun as => mb (compL tg tt me vs as) fun ys => ret (if as.length ≤ 16777215 then some (.lst ys) else none)
theorem compL_len {tg : Tg} {tt : Mo Bool} {me : M} {vs : List Nat} : ∀ {as : List D} {n : Int} {ds : DS} {ys : List D} {n' : Int}, compL tg tt me vs as n ds = some (.ok ys, n') → ys.length ≤ as.length
  | [], n, ds, ys, n', h => by cases h; exact Nat.le_refl _
  | d :: r, n, ds, ys, n', h => by
    unfold compL at h
    split at h
    · cases h
    · split at h
      · split at h
        · split at h
          · rename_i h2
            cases h
            have := compL_len h2
            simp only [List.length_cons]; omega
          · cases h
        · cases h
      · have := compL_len h
        simp only [List.length_cons]; omega
      · cases h
/-- an own thing that the state does not speak of is written -/
theorem Sim.updO {F H : Hp} {B : AS} {σ : L2.St} {n : Int} {ds : DS} (S : Sim C F B σ H n ds) {p : Addr} {o o' : HO} (hp : H p = some o) (ho : Mk o = true) (hF : F p = none) (hB : ¬ B p) : Sim C F B σ (upd H p o') n ds where
  fh := fun a u e => by
    have hne : a ≠ p := fun z => by rw [z, hF] at e; cases e
    rw [upd_ne hne]; exact S.fh a u e
  bok := fun a ha => by
    have hne : a ≠ p := fun z => hB (z ▸ ha)
    obtain ⟨h1, u, h2, h3⟩ := S.bok a ha
    exact ⟨h1, u, by rw [upd_ne hne]; exact h2, h3⟩
  cell := fun q hq => by
    have hne : q ≠ p := fun z => hB (z ▸ (S.cell q hq).1)
    exact ⟨(S.cell q hq).1, by rw [upd_ne hne]; exact (S.cell q hq).2⟩
  pin := S.pin
  len := S.len
  rep := by
    obtain ⟨A, h1, h2, h3⟩ := S.rep
    refine ⟨A, fun i d e => ?_, h2, h3⟩
    obtain ⟨v, e1, r⟩ := h1 i d e
    refine ⟨v, e1, r.mono (Same.refl _) (fun a u e n => ?_) fun a u ha e => ?_⟩
    · have hne : a ≠ p := fun z => by rw [z, hp] at e; cases e; rw [ho] at n; cases n
      rw [upd_ne hne]; exact e
    · have hne : a ≠ p := fun z => hB (z ▸ (h2 i a ha).1)
      rw [upd_ne hne]; exact e
/-- the list under way: at L, its items' things one's own -/
structure Acc (K : PySem.W.Frag) (k : Nat) (H1 F H : Hp) (L : Addr) (vs : List V) (ds : List D) : Prop where
  at_ : H L = some (.lst vs)
  nF : F L = none
  len : vs.length = ds.length
  its : ∃ As : Nat → AS, (∀ (i : Nat) v d, vs[i]? = some v → ds[i]? = some d → Rp K F H k v d (As i)) ∧ (∀ i a, As i a → a ≠ L ∧ H1 a = none ∧ F a = none ∧ ∃ o, H a = some o ∧ Mk o = true) ∧ (∀ i j a, As i a → As j a → i = j) ∧ ∀ i, vs.length ≤ i → ∀ a, ¬ As i a
/-- an item more: it was made since (Fi, Hi) -/
theorem Acc.push {K : PySem.W.Frag} {H1 Fi Hi F H : Hp} {L : Addr} {vs : List V} {ds : List D} {v : V} {d : D} {A : AS} {q : Option Addr} (a : Acc K k H1 Fi Hi L vs ds) (G : GoC q Fi Hi F H) (hq : ∀ x, q = some x → H1 x ≠ none) (hL : H1 L = none) (hdm : ∀ x, Hi x = none → H1 x = none)
    (r : Rp K F H k v d A) (f : ∀ x, A x → Hi x = none ∧ F x = none ∧ ∃ o, H x = some o ∧ Mk o = true) : H L = some (.lst vs) ∧ F L = none ∧ Acc K k H1 F (upd H L (.lst (vs ++ [v]))) L (vs ++ [v]) (ds ++ [d]) := by
  obtain ⟨As, h1, h2, h3, h4⟩ := a.its
  have nq : ∀ x, H1 x = none → q ≠ some x := fun x h z => hq x z h
  have hHL : H L = some (.lst vs) := G.go.hh L _ a.at_ (nq L hL)
  have hFL : F L = none := G.go.nf L _ a.nF a.at_
  have hAL : ∀ x, A x → x ≠ L := fun x hx z => by
    have := (f x hx).1
    rw [z, a.at_] at this; cases this
  have hup : ∀ x o, x ≠ L → H x = some o → upd H L (.lst (vs ++ [v])) x = some o := fun x o hx e => by rw [upd_ne hx]; exact e
  have ht : ∀ x o, H x = some o → Mk o = false → upd H L (.lst (vs ++ [v])) x = some o := fun x o e n => by
    refine hup x o (fun z => ?_) e
    rw [z, hHL] at e; cases e; cases n
  refine ⟨hHL, hFL, upd_same, hFL, by simp [a.len], ?_⟩
  classical
  refine ⟨fun i => if i = vs.length then A else As i, fun i w d' e1 e2 => ?_, fun i x hx => ?_, fun i j x hi hj => ?_, fun i hi x hx => ?_⟩
  · by_cases hi : i = vs.length
    · subst hi
      rw [List.getElem?_concat_length] at e1
      rw [a.len, List.getElem?_concat_length] at e2
      cases e1; cases e2
      simp only [if_true]
      exact r.mono (Same.refl _) ht fun x o hx e => hup x o (hAL x hx) e
    · have hlt : i < vs.length := by
        have := (List.getElem?_eq_some_iff.mp e1).1
        rw [List.length_append, List.length_singleton] at this; omega
      rw [List.getElem?_append_left hlt] at e1
      rw [List.getElem?_append_left (by rw [← a.len]; exact hlt)] at e2
      simp only [if_neg hi]
      exact ((h1 i w d' e1 e2).mono G.go.ff G.go.ht fun x o hx e => G.go.hh x o e (nq x (h2 i x hx).2.1)).mono (Same.refl _) ht fun x o hx e => hup x o (h2 i x hx).1 e
  · by_cases hi : i = vs.length
    · simp only [if_pos hi] at hx
      obtain ⟨z1, z2, o, z3, z4⟩ := f x hx
      exact ⟨hAL x hx, hdm x z1, z2, o, hup x o (hAL x hx) z3, z4⟩
    · simp only [if_neg hi] at hx
      obtain ⟨z1, z2, z3, o, z4, z5⟩ := h2 i x hx
      exact ⟨z1, z2, G.go.nf x o z3 z4, o, hup x o z1 (G.go.hh x o z4 (nq x z2)), z5⟩
  · have old : ∀ i, As i x → A x → False := fun i z1 z2 => by
      obtain ⟨_, _, _, o, z4, _⟩ := h2 i x z1
      have := (f x z2).1
      rw [z4] at this; cases this
    by_cases hi' : i = vs.length <;> by_cases hj' : j = vs.length
    · rw [hi', hj']
    · simp only [if_pos hi'] at hi
      simp only [if_neg hj'] at hj
      exact (old j hj hi).elim
    · simp only [if_neg hi'] at hi
      simp only [if_pos hj'] at hj
      exact (old i hi hj).elim
    · simp only [if_neg hi'] at hi
      simp only [if_neg hj'] at hj
      exact h3 i j x hi hj
  · rw [List.length_append, List.length_singleton] at hi
    simp only [if_neg (show ¬ i = vs.length by omega)] at hx
    exact h4 i (by omega) x hx
/-- nothing new but what else was made since -/
theorem Acc.go {K : PySem.W.Frag} {H1 F H F' H' : Hp} {L : Addr} {vs : List V} {ds : List D} {q : Option Addr} (a : Acc K k H1 F H L vs ds) (G : GoC q F H F' H') (hq : ∀ x, q = some x → H1 x ≠ none) (hL : H1 L = none) : Acc K k H1 F' H' L vs ds := by
  obtain ⟨As, h1, h2, h3, h4⟩ := a.its
  have nq : ∀ x, H1 x = none → q ≠ some x := fun x h z => hq x z h
  refine ⟨G.go.hh L _ a.at_ (nq L hL), G.go.nf L _ a.nF a.at_, a.len, As, fun i v d e1 e2 => (h1 i v d e1 e2).mono G.go.ff G.go.ht fun x o hx e => G.go.hh x o e (nq x (h2 i x hx).2.1), fun i x hx => ?_, h3, h4⟩
  obtain ⟨z1, z2, z3, o, z4, z5⟩ := h2 i x hx
  exact ⟨z1, z2, G.go.nf x o z3 z4, o, G.go.hh x o z4 (nq x z2), z5⟩
theorem compL_noex {tg : Tg} {tt : Mo Bool} {me : M} {vs : List Nat} {c : Addr} {fs : List (Str × Int)} {n' : Int} : ∀ {as : List D} {n : Int} {ds : DS}, compL tg tt me vs as n ds ≠ some (.ex c fs, n')
  | [], n, ds, h => by cases h
  | d :: r, n, ds, h => by
    unfold compL at h
    split at h
    · cases h
    · split at h
      · split at h
        · split at h
          · cases h
          · cases h
        · cases h
      · exact compL_noex h
      · cases h
theorem lc_of {t : Tg} {mi : Mo (List D)} {tt : Mo Bool} {me : M} {vs : List Nat} (ht : ∀ i ∈ t.slots, i ∈ vs) (hv : ∀ i ∈ vs, C.pn i = none) {σ : L2.St} {H : Hp} {Q : VK} (w : W C wx .fz (k + 1) (mLc mi t tt me vs) σ H Q) :
    tLc (WI C wx mi) (GT C t) (WT C wx0 tt) (W C wx0 .fz k me) vs σ H Q := by
  obtain ⟨F, B, n, ds, S, h⟩ := w
  refine ⟨F, B, n, ds, S, (h.bind fun F1 H1 F2 H2 v d G r => r.tr G).mono fun J H1 ⟨F1, n1, as, G1, S1, y, h1⟩ L hL => ?_⟩
  have hFL : F1 L = none := none_some (fun a o e => ⟨o, S1.fh a o e⟩) hL
  have hqn : ∀ x, C.q = some x → H1 x ≠ none := fun x hx => S1.nq hx
  have nB : ¬ B L := fun z => by
    obtain ⟨_, o, e, _⟩ := S1.bok L z
    rw [hL] at e; cases e
  -- what the whole comes to
  obtain ⟨ys, n2, ec, hlen, q⟩ : ∃ ys n2, compL t tt me vs as n1 ds = some (.ok ys, n2) ∧ as.length ≤ 16777215 ∧ ∀ v F' H', GoC C.q F1 H1 F' H' → Sim C F' B σ H' n2 ds → RV C .fz (k + 1) H1 F' H' v (.lst ys) → Q v H' := by
    unfold WL at h1
    cases ec : compL t tt me vs as n1 ds with
    | none => simp only [mb, ec] at h1
    | some pp =>
      obtain ⟨o, n2⟩ := pp
      cases o with
      | ex c fs => exact (compL_noex ec).elim
      | ok ys =>
        by_cases hl : as.length ≤ 16777215
        · simp only [mb, ec, ret, if_pos hl] at h1
          exact ⟨ys, n2, rfl, hl, h1⟩
        · simp only [mb, ec, ret, if_neg hl] at h1
  let WI' : Nat → Nat → Hp → Prop := fun i m Hi => m + i = as.length ∧ ∃ Fi ni vsA dsA, GoC C.q F1 H1 Fi Hi ∧ Sim C Fi B σ Hi ni ds ∧ Acc C.K k H1 Fi Hi L vsA dsA ∧ dsA.length ≤ i ∧ ∃ rest, compL t tt me vs (as.drop i) ni ds = some (.ok rest, n2) ∧ ys = dsA ++ rest
  refine ⟨WI', ⟨as.length, rfl, F1, n1, [], [], GoC.newO S1.fh hL, (S1.newO hL).2, ⟨upd_same, hFL, rfl, fun _ _ => False, fun i v d e => by simp at e, fun _ _ h => h.elim, fun _ _ _ h => h.elim, fun _ _ _ h => h⟩, Nat.zero_le _, ys, by rw [List.drop_zero]; exact ec, rfl⟩, ?_⟩
  rintro i m Hi ⟨hm, Fi, ni, vsA, dsA, Gi, Si, ac, hacl, rest, er, ey⟩
  cases hd : as[i]? with
  | none =>
    have hl := List.getElem?_eq_none_iff.mp hd
    left
    refine ⟨(y Fi Hi Gi.later i).2 (by have := List.getElem?_eq_none_iff.mp hd; omega), ?_⟩
    rw [List.drop_eq_nil_of_le hl] at er
    cases er
    rw [List.append_nil] at ey
    subst ey
    obtain ⟨As, a1, a2, a3, a4⟩ := ac.its
    refine q (.ref L) Fi Hi Gi Si ⟨fun a => a = L ∨ ∃ i, As i a, .lstO As ac.at_ (.inl rfl) ac.len a1 (fun i a ha => ⟨.inr ⟨i, ha⟩, (a2 i a ha).1⟩) a3, fun a ha => ?_⟩
    rcases ha with ha | ⟨j, ha⟩
    · subst ha; exact ⟨hL, ac.nF, _, ac.at_, rfl⟩
    · exact (a2 j a ha).2
  | some d =>
    have hlt := (List.getElem?_eq_some_iff.mp hd).1
    right
    obtain ⟨hgo, hy⟩ := (y Fi Hi Gi.later i).1 d hd
    refine ⟨hgo, fun H' => WI' (i + 1) (m - 1) H', fun H' hn => ⟨m - 1, by omega, hn⟩, fun x H' hx => ?_⟩
    obtain ⟨hH, rx⟩ := hy x H' hx
    obtain ⟨G2, S2⟩ := Si.yld hH
    have hdrop : as.drop i = d :: as.drop (i + 1) := by
      rw [List.drop_eq_getElem_cons hlt]
      rw [(List.getElem?_eq_some_iff.mp hd).2]
    rw [hdrop] at er
    unfold compL at er
    cases hbd : t.bind d (wipeD ds vs) with
    | none => simp only [hbd] at er; cases er
    | some ds1 =>
      simp only [hbd] at er
      refine ⟨Fi, B, ni, wipeD ds vs, d, ds1, S2.wipe hv, rx, hbd, fun σ2 S3 hl2 hs2 => ⟨wipe_same hl2 fun j hj => hs2 j fun z => hj (ht j z), Fi, B, ni, ds1, S3, ?_⟩⟩
      unfold WL
      cases et : tt ni ds1 with
      | none => simp only [et] at er; cases er
      | some pp =>
        obtain ⟨o, n3⟩ := pp
        cases o with
        | ex c fs => simp only [et] at er; cases er
        | ok b =>
          intro bv F3 H3 G3 S4 eb
          have eb : bv = b := eb
          subst eb
          have Gi3 : GoC C.q Fi Hi F3 H3 := G2.trans G3
          cases bv with
          | false =>
            simp only [et] at er
            rw [if_neg Bool.false_ne_true]
            exact ⟨by omega, F3, n3, vsA, dsA, Gi.trans Gi3, Si.go Gi3 (fun q hq => (S4.cell q hq).2), ac.go Gi3 hqn hL, by omega, rest, er, ey⟩
          | true =>
            rw [if_pos rfl]
            refine ⟨F3, B, n3, ds1, S4, ?_⟩
            unfold WL
            cases em : me n3 ds1 with
            | none => simp only [et, em] at er; cases er
            | some pp =>
              obtain ⟨o, n4⟩ := pp
              cases o with
              | ex c fs => simp only [et, em] at er; cases er
              | ok dy =>
                rintro vy F4 H4 G4 S5 ⟨A, r, f⟩
                have Gi4 : GoC C.q Fi Hi F4 H4 := Gi3.trans G4
                obtain ⟨p1, p2, p3⟩ := ac.push Gi4 hqn hL (fun x hx => Gi.free hx) r fun x hx => ⟨Gi3.free (f x hx).1, (f x hx).2⟩
                have hvl : vsA.length ≤ i := by rw [ac.len]; exact hacl
                cases ec2 : compL t tt me vs (as.drop (i + 1)) n4 ds with
                | none => simp only [et, em, ec2] at er; cases er
                | some pp =>
                  obtain ⟨o, n5⟩ := pp
                  cases o with
                  | ex c fs => exact (compL_noex ec2).elim
                  | ok ys2 =>
                    simp only [et, em, ec2] at er
                    cases er
                    refine ⟨vsA, p1, by rw [sizeLine_eq]; omega, by omega, F4, n4, vsA ++ [vy], dsA ++ [dy], ?_, ?_, p3, by rw [List.length_append, List.length_singleton]; omega, ys2, ec2, by rw [ey]; simp⟩
                    · have Gx := Gi.trans Gi4
                      have hne : ∀ a o, H1 a = some o → a ≠ L := fun a o e z => by rw [z, hL] at e; cases e
                      exact ⟨⟨Gx.go.ff, fun a o e => by
                        have : a ≠ L := fun z => by rw [z, p2] at e; cases e
                        rw [upd_ne this]; exact Gx.go.fh a o e, fun a o e n => by rw [upd_ne (hne a o e)]; exact Gx.go.hh a o e n, fun a o e n => by rw [upd_ne (hne a o e)]; exact Gx.go.ht a o e n, Gx.go.nf⟩, fun a o e => by rw [upd_ne (hne a o e)]; exact Gx.dm a o e⟩
                    · exact (Si.go Gi4 (fun q hq => (S5.cell q hq).2)).updO p1 rfl p2 nB
theorem ve_lc {ifs : List Expr} {scope : Scope} {own : List (Str × Nat)} {t : Tg} {mi : Mo (List D)} {tt : Mo Bool} {me : M} (hi : PI X tg iter (WI C wx mi)) (ok : BlkOk X.N X.env.scope scope own)
    (hg : ∀ (s : Shared) (H : Hp) (C0 : Addr) (cl : List (Str × Addr)) (fp : List Addr), PG (X.blk s H scope (compEnvC scope cl C0 X.env) fp) tg (GT C t)) (ht : ∀ (s : Shared) (H : Hp) (C0 : Addr) (cl : List (Str × Addr)) (fp : List Addr), PTs (X.blk s H scope (compEnvC scope cl C0 X.env) fp) ifs (WT C wx0 tt))
    (he : ∀ (s : Shared) (H : Hp) (C0 : Addr) (cl : List (Str × Addr)) (fp : List Addr), PE (X.blk s H scope (compEnvC scope cl C0 X.env) fp) elt (W C wx0 .fz k me)) (hsl : ∀ i ∈ t.slots, i ∈ own.map (·.2)) (hv : ∀ i ∈ own.map (·.2), C.pn i = none)
    (hN : X.N.Nodup) (hc : X.calm = true := by rfl) (hs : ∀ x, foldedSetIterable iter X.env x = pure x := by intro _; rfl) :
    PE X (.ListComp elt [⟨tg, iter, ifs, 0⟩] scope pos) (W C wx .fz (k + 1) (mLc mi t tt me (own.map (·.2)))) :=
  (pe_lc hc hN hi ok hg ht he hs).wk fun σ H Q w => lc_of hsl hv w
def mYes : Mo Bool := ret (some true)
theorem vts_nil : PTs X [] (WT C wx mYes) := ⟨fun pins s σ H Q I w => pts_nil.run pins s σ H Q I (by
  obtain ⟨F, B, n, ds, S, h⟩ := w
  obtain ⟨d, e, q⟩ := h.retE
  cases e
  exact q true F H (GoC.refl S.fh) S rfl)⟩
theorem vts_one {c : Expr} {t : Mo Bool} (h : PT X c (WT C wx t)) : PTs X [c] (WT C wx t) := pts_one h
/-- y = [..] on one line -/
theorem ws_setLc {i : Nat} {y : Str} {py spos : Pos} {ifs : List Expr} {scope : Scope} {own : List (Str × Nat)} {t : Tg} {mi : Mo (List D)} {tt : Mo Bool} {me : M} (hi : PI X tg iter (WI C wx mi)) (ok : BlkOk X.N X.env.scope scope own)
    (hg : ∀ (s : Shared) (H : Hp) (C0 : Addr) (cl : List (Str × Addr)) (fp : List Addr), PG (X.blk s H scope (compEnvC scope cl C0 X.env) fp) tg (GT C t)) (ht : ∀ (s : Shared) (H : Hp) (C0 : Addr) (cl : List (Str × Addr)) (fp : List Addr), PTs (X.blk s H scope (compEnvC scope cl C0 X.env) fp) ifs (WT C wx0 tt))
    (he : ∀ (s : Shared) (H : Hp) (C0 : Addr) (cl : List (Str × Addr)) (fp : List Addr), PE (X.blk s H scope (compEnvC scope cl C0 X.env) fp) elt (W C wx0 .fz k me)) (hsl : ∀ i ∈ t.slots, i ∈ own.map (·.2)) (hv : ∀ i ∈ own.map (·.2), C.pn i = none)
    (hT : C.T i = k + 1) (hp : C.pn i = none)
    (hN : X.N.Nodup) (hy : X.N[i]? = some y) (hyl : X.env.scope.names.lookup y = some .local) (hsw : swapsWith (.ListComp elt [⟨tg, iter, ifs, 0⟩] scope pos) (some (.Name y py)) spos.line X.env = pure true) (hc : X.calm = true := by rfl) (hs : ∀ x, foldedSetIterable iter X.env x = pure x := by intro _; rfl) :
    PS X (.Assign [.Name y py] (.ListComp elt [⟨tg, iter, ifs, 0⟩] scope pos) spos) (WS C wx kr (sSet i (mLc mi t tt me (own.map (·.2))))) := (ps_setLc hc hN hy hyl hsw hi ok hg ht he hs).wk fun E σ H w => by
  obtain ⟨F, B, n, ds, S, h⟩ := w
  refine lc_of (C := C) (wx := wx) hsl hv ⟨F, B, n, ds, S, (wsl_e (R := RV C .fz (k + 1)) S h).mono fun v H1 ⟨F1, n1, d, G1, S1, ⟨A, r, f⟩, h1⟩ => ?_⟩
  obtain ⟨f1, f2⟩ := fresh_ok S f
  have S2 := S1.set (H0 := H) (by rw [hT]; exact r) f1 hp f2
  exact h1 _ F1 _ H1 (goS_new S G1 f) S2
/-- .. where the list is to stand -/
theorem ws_setLc0 {i : Nat} {y : Str} {py spos : Pos} {ifs : List Expr} {scope : Scope} {own : List (Str × Nat)} {t : Tg} {mi : Mo (List D)} {tt : Mo Bool} {me : M} (hi : PI X tg iter (WI C wx mi)) (ok : BlkOk X.N X.env.scope scope own)
    (hg : ∀ (s : Shared) (H : Hp) (C0 : Addr) (cl : List (Str × Addr)) (fp : List Addr), PG (X.blk s H scope (compEnvC scope cl C0 X.env) fp) tg (GT C t)) (ht : ∀ (s : Shared) (H : Hp) (C0 : Addr) (cl : List (Str × Addr)) (fp : List Addr), PTs (X.blk s H scope (compEnvC scope cl C0 X.env) fp) ifs (WT C wx0 tt))
    (he : ∀ (s : Shared) (H : Hp) (C0 : Addr) (cl : List (Str × Addr)) (fp : List Addr), PE (X.blk s H scope (compEnvC scope cl C0 X.env) fp) elt (W C wx0 .fz k me)) (hsl : ∀ i ∈ t.slots, i ∈ own.map (·.2)) (hv : ∀ i ∈ own.map (·.2), C.pn i = none)
    (hT : C.T i = 0) (hp : C.pn i = none)
    (hN : X.N.Nodup) (hy : X.N[i]? = some y) (hyl : X.env.scope.names.lookup y = some .local) (hsw : swapsWith (.ListComp elt [⟨tg, iter, ifs, 0⟩] scope pos) (some (.Name y py)) spos.line X.env = pure true) (hc : X.calm = true := by rfl) (hs : ∀ x, foldedSetIterable iter X.env x = pure x := by intro _; rfl) :
    PS X (.Assign [.Name y py] (.ListComp elt [⟨tg, iter, ifs, 0⟩] scope pos) spos) (WS C wx kr (sSet i (mLc mi t tt me (own.map (·.2))))) := (ps_setLc hc hN hy hyl hsw hi ok hg ht he hs).wk fun E σ H w => by
  obtain ⟨F, B, n, ds, S, h⟩ := w
  have hz : W C wx .fz 0 (mLc mi t tt me (own.map (·.2))) σ H (fun x H1 => gName i x σ H1 E.nx) := ⟨F, B, n, ds, S, (wsl_e (R := RV C .fz 0) S h).mono fun v H1 ⟨F1, n1, d, G1, S1, ⟨A, r, f⟩, h1⟩ => h1 _ F1 B H1 (G1.toS S.qB) (S1.set0 r hT hp)⟩
  exact lc_of (C := C) (wx := wx) (k := k) hsl hv (W.frz hz)
end
end GW

namespace GW
open PySem L2 PyProof.Rows
section
variable {X : Cx} {C : Ctx} {wx : WX} {kr k : Nat} {e : Expr} {pos : Pos} {m : M}
/-! ### a list of one's own is changed -/
/-- the list in slot i -/
structure OwnL (C : Ctx) (F H : Hp) (B : AS) (σ : L2.St) (i : Nat) (p : Addr) (vs : List V) (as : List D) (k : Nat) (As : Nat → AS) : Prop where
  sl : σ[i]? = some (some (.ref p))
  at_ : H p = some (.lst vs)
  len : vs.length = as.length
  its : ∀ (j : Nat) v d, vs[j]? = some v → as[j]? = some d → Rp C.K F H k v d (As j)
  s : ∀ (j : Nat) a, As j a → B a ∧ a ≠ p ∧ C.q ≠ some a
  dj : ∀ (j j' : Nat) a, As j a → As j' a → j = j'
  pB : B p
  pq : C.q ≠ some p
theorem Sim.ownL {F H : Hp} {B : AS} {σ : L2.St} {n : Int} {ds : DS} {i : Nat} {as : List D} (S : Sim C F B σ H n ds) (hd : ds[i]? = some (some (.lst as))) (hT : C.T i = k + 1) :
    ∃ p vs As, OwnL C F H B σ i p vs as k As ∧ ∀ (vs' : List V) (as' : List D) (As' : Nat → AS), vs'.length = as'.length → (∀ (j : Nat) v d, vs'[j]? = some v → as'[j]? = some d → Rp C.K F H k v d (As' j)) →
      (∀ (j : Nat) a, As' j a → a ≠ p ∧ C.q ≠ some a ∧ ((∃ j', As j' a) ∨ (¬ B a ∧ F a = none ∧ ∃ o, H a = some o ∧ Mk o = true))) → (∀ (j j' : Nat) a, As' j a → As' j' a → j = j') →
      Sim C F (fun a => B a ∨ ∃ j, As' j a) σ (upd H p (.lst vs')) n (ds.set i (some (.lst as'))) ∧ ∀ o, H p = some o → Mk o = true := by
  obtain ⟨A, h1, h2, h3⟩ := S.rep
  obtain ⟨v, hv, r⟩ := h1 i _ hd
  rw [hT] at r
  cases r with
  | @lstO _ _ p vs _ As h hA l c s dj =>
    have hpB := h2 i p hA
    refine ⟨p, vs, As, ⟨hv, h, l, c, fun j a ha => ⟨(h2 i a (s j a ha).1).1, (s j a ha).2, (h2 i a (s j a ha).1).2⟩, dj, hpB.1, hpB.2⟩, fun vs' as' As' l' c' s' dj' => ⟨?_, fun o e => by rw [h] at e; cases e; rfl⟩⟩
    have hup : ∀ a o, a ≠ p → H a = some o → upd H p (.lst vs') a = some o := fun a o hne e => by rw [upd_ne hne]; exact e
    have htt : ∀ a o, H a = some o → Mk o = false → upd H p (.lst vs') a = some o := fun a o e hm => hup a o (fun z => by rw [z, h] at e; cases e; cases hm) e
    have hFp : F p = none := (S.bok p hpB.1).1
    refine ⟨fun a o e => hup a o (fun z => by rw [z, hFp] at e; cases e) (S.fh a o e), fun a ha => ?_, fun q hq => ⟨.inl (S.cell q hq).1, hup q _ (fun z => hpB.2 (z ▸ hq)) (S.cell q hq).2⟩, S.pin, by rw [List.length_set]; exact S.len, ?_⟩
    · by_cases hap : a = p
      · subst hap; exact ⟨hFp, _, upd_same, rfl⟩
      · rcases ha with ha | ⟨j, ha⟩
        · obtain ⟨z1, o, z2, z3⟩ := S.bok a ha
          exact ⟨z1, o, hup a o hap z2, z3⟩
        · obtain ⟨_, _, z | ⟨_, z1, o, z2, z3⟩⟩ := s' j a ha
          · obtain ⟨j', z⟩ := z
            obtain ⟨z1, o, z2, z3⟩ := S.bok a (h2 i a (s j' a z).1).1
            exact ⟨z1, o, hup a o hap z2, z3⟩
          · exact ⟨z1, o, hup a o hap z2, z3⟩
    · classical
      refine ⟨fun j => if j = i then (fun a => a = p ∨ ∃ j, As' j a) else A j, fun j d e => ?_, fun j a ha => ?_, fun j j' a ha ha' => ?_⟩
      · by_cases hj : j = i
        · subst hj
          have hl : j < ds.length := (List.getElem?_eq_some_iff.mp hd).1
          rw [List.getElem?_set_self hl] at e
          cases e
          refine ⟨.ref p, hv, ?_⟩
          rw [hT]
          simp only [if_true]
          exact .lstO As' upd_same (.inl rfl) l' (fun j' v d a b => (c' j' v d a b).mono (Same.refl _) htt fun a o ha e => hup a o (s' j' a ha).1 e) (fun j' a ha => ⟨.inr ⟨j', ha⟩, (s' j' a ha).1⟩) dj'
        · rw [List.getElem?_set_ne (Ne.symm hj)] at e
          obtain ⟨w, e1, r1⟩ := h1 j d e
          refine ⟨w, e1, ?_⟩
          simp only [if_neg hj]
          exact r1.mono (Same.refl _) htt fun a o ha e => hup a o (fun z => hj (h3 j i a ha (z ▸ hA))) e
      · by_cases hj : j = i
        · simp only [if_pos hj] at ha
          rcases ha with ha | ⟨j', ha⟩
          · subst ha; exact ⟨.inl hpB.1, hpB.2⟩
          · exact ⟨.inr ⟨j', ha⟩, (s' j' a ha).2.1⟩
        · simp only [if_neg hj] at ha
          exact ⟨.inl (h2 j a ha).1, (h2 j a ha).2⟩
      · have cross : ∀ j, j ≠ i → A j a → (a = p ∨ ∃ j, As' j a) → False := fun j hj z1 z2 => by
          rcases z2 with z2 | ⟨j', z2⟩
          · subst z2; exact hj (h3 j i _ z1 hA)
          · obtain ⟨_, _, z | ⟨z, _⟩⟩ := s' j' a z2
            · obtain ⟨j2, z⟩ := z
              exact hj (h3 j i a z1 (s j2 a z).1)
            · exact z (h2 j a z1).1
        by_cases hj : j = i <;> by_cases hj' : j' = i
        · rw [hj, hj']
        · simp only [if_pos hj] at ha
          simp only [if_neg hj'] at ha'
          exact (cross j' hj' ha' ha).elim
        · simp only [if_neg hj] at ha
          simp only [if_pos hj'] at ha'
          exact (cross j hj ha ha').elim
        · simp only [if_neg hj] at ha
          simp only [if_neg hj'] at ha'
          exact h3 j j' a ha ha'
/-- the heap's step of such a change, from the statement's start -/
theorem goS_mut {F H F1 H1 : Hp} {B : AS} {σ : L2.St} {n n1 : Int} {ds : DS} {p : Addr} {o : HO} {As' : Nat → AS} (S : Sim C F B σ H n ds) (G : GoC C.q F H F1 H1) (S1 : Sim C F1 B σ H1 n1 ds) (hpB : B p) (ho : ∀ o, H1 p = some o → Mk o = true) (hs : ∀ j a, As' j a → B a ∨ H a = none) :
    GoS B F H (fun a => B a ∨ ∃ j, As' j a) F1 (upd H1 p o) := by
  have g := G.toS (B := B) S.qB
  refine ⟨g.ff, fun a u e => ?_, fun a u e nb => ?_, fun a u e hm => ?_, g.nf, fun a ha => ha.elim .inl fun ⟨j, z⟩ => hs j a z, fun a u e => ?_⟩
  · have : a ≠ p := fun z => by rw [z, (S1.bok p hpB).1] at e; cases e
    rw [upd_ne this]; exact g.fh a u e
  · have : a ≠ p := fun z => nb (z ▸ hpB)
    rw [upd_ne this]; exact g.hh a u e nb
  · have : a ≠ p := fun z => by
      have := ho u (z ▸ g.ht a u e hm)
      rw [hm] at this; cases this
    rw [upd_ne this]; exact g.ht a u e hm
  · by_cases h : a = p
    · exact ⟨o, by rw [h]; exact upd_same⟩
    · obtain ⟨u', e'⟩ := g.dm a u e
      exact ⟨u', by rw [upd_ne h]; exact e'⟩
/-- xs.append(e) -/
def sApp (i : Nat) (m : M) : MS := fun n ds => match ds[i]? with
  | some (some (.lst as)) => sE m (fun d n ds => if as.length < 16777216 then some (.nx, n, ds.set i (some (.lst (as ++ [d])))) else none) n ds
  | _ => none
theorem ws_app {i : Nat} {o : Expr} {apos cpos : Pos} (ho : PE X o (tVar i)) (he : PE X e (W C wx .fz k m)) (hT : C.T i = k + 1) (hbase : attributeBase o "append" X.env (eval o X.env) = eval o X.env := by rfl)
    (hfew : ((backTo cpos (starEach [e] X.env)).all (fun x => !x.1) && (backToKw cpos (keywordEach [] X.env)).all (fun x => x.1.isSome)
      && decide ([e].length + ([] : List Keyword).length + (if ([] : List Keyword).isEmpty then 0 else 1) < 30)) = true := by rfl)
    (hline : (apos.endLine == cpos.line) = true := by rfl) (hs : starEach [e] X.env = (false, eval e X.env) :: starEach [] X.env := by rfl) (hplain : (backTo cpos (starEach [] X.env)).any (·.1) = false := by rfl)
    (hsw : swapsWith (.Call (.Attribute o "append" apos) [e] [] cpos) none pos.line X.env = pure false := by rfl) : PS X (.Expr (.Call (.Attribute o "append" apos) [e] [] cpos) pos) (WS C wx kr (sApp i m)) :=
  (ps_expr (pe_bm PySem.F.plainAttrs_list PySem.F.slot_list_append PySem.F.type_list_append mt_append ho (pa_cons he pa_nil hs) hbase hfew hline hs hplain) hsw).wk fun E σ H w => by
  obtain ⟨F, B, n, ds, S, h⟩ := w
  cases e0 : ds[i]? with
  | none => unfold WSL sApp at h; simp only [e0] at h
  | some x =>
    cases x with
    | none => unfold WSL sApp at h; simp only [e0] at h
    | some d0 =>
      cases d0 with
      | lst as =>
        have h' : WSL C wx kr (sE m (fun d n ds => if as.length < 16777216 then some (.nx, n, ds.set i (some (.lst (as ++ [d])))) else none)) F B n ds H E := h.tr (GoS.refl S.fh) (by simp only [sApp, e0])
        obtain ⟨p, vs, As, O, _⟩ := S.ownL e0 hT
        refine ⟨.ref p, O.sl, .inl ⟨rfl, _, .inl (.inl O.at_)⟩, F, B, n, ds, S, (wsl_e (R := RV C .fz k) S h').mono fun v H1 ⟨F1, n1, d, G1, S1, ⟨A, r1, f⟩, h4⟩ => ?_⟩
        obtain ⟨p', vs', As', O', mutf⟩ := S1.ownL e0 hT
        have hpp : p' = p := by
          have := O'.sl
          rw [O.sl] at this
          cases this; rfl
        subst hpp
        by_cases hl : as.length < 16777216
        · unfold WSL at h4
          simp only [if_pos hl] at h4
          refine ⟨p', vs', v, rfl, rfl, O'.at_, by rw [sizeLine_eq, O'.len]; exact hl, ?_⟩
          obtain ⟨f1, f2⟩ := fresh_ok S f
          classical
          obtain ⟨S3, ho⟩ := mutf (vs' ++ [v]) (as ++ [d]) (fun j => if j = vs'.length then A else if j < vs'.length then As' j else fun _ => False) (by simp [O'.len]) (fun j w d' e1 e2 => by
            by_cases hj : j = vs'.length
            · subst hj
              rw [List.getElem?_concat_length] at e1
              rw [O'.len, List.getElem?_concat_length] at e2
              cases e1; cases e2
              simp only [if_true]
              exact r1
            · have hlt : j < vs'.length := by
                have := (List.getElem?_eq_some_iff.mp e1).1
                rw [List.length_append, List.length_singleton] at this; omega
              rw [List.getElem?_append_left hlt] at e1
              rw [List.getElem?_append_left (by rw [← O'.len]; exact hlt)] at e2
              simp only [if_neg hj, if_pos hlt]
              exact O'.its j w d' e1 e2) (fun j a ha => by
            by_cases hj : j = vs'.length
            · simp only [if_pos hj] at ha
              refine ⟨fun z => ?_, f2 a ha, .inr ⟨(f1 a ha).1, (f1 a ha).2⟩⟩
              subst z; exact (f1 _ ha).1 O'.pB
            · by_cases hlt : j < vs'.length
              · simp only [if_neg hj, if_pos hlt] at ha
                exact ⟨(O'.s j a ha).2.1, (O'.s j a ha).2.2, .inl ⟨j, ha⟩⟩
              · simp only [if_neg hj, if_neg hlt] at ha) (fun j j' a ha ha' => by
            have cross : ∀ j, A a → As' j a → False := fun j z1 z2 => (f1 a z1).1 (O'.s j a z2).1
            by_cases hj : j = vs'.length <;> by_cases hj' : j' = vs'.length
            · rw [hj, hj']
            · simp only [if_pos hj] at ha
              simp only [if_neg hj'] at ha'
              by_cases hlt : j' < vs'.length
              · simp only [if_pos hlt] at ha'; exact (cross j' ha ha').elim
              · simp only [if_neg hlt] at ha'
            · simp only [if_neg hj] at ha
              simp only [if_pos hj'] at ha'
              by_cases hlt : j < vs'.length
              · simp only [if_pos hlt] at ha; exact (cross j ha' ha).elim
              · simp only [if_neg hlt] at ha
            · simp only [if_neg hj] at ha
              simp only [if_neg hj'] at ha'
              by_cases hlt : j < vs'.length
              · by_cases hlt' : j' < vs'.length
                · simp only [if_pos hlt] at ha
                  simp only [if_pos hlt'] at ha'
                  exact O'.dj j j' a ha ha'
                · simp only [if_neg hlt'] at ha'
              · simp only [if_neg hlt] at ha)
          refine h4 σ F1 _ _ (goS_mut S G1 S1 O'.pB ho fun j a ha => ?_) S3
          by_cases hj : j = vs'.length
          · simp only [if_pos hj] at ha
            exact .inr (f a ha).1
          · by_cases hlt : j < vs'.length
            · simp only [if_neg hj, if_pos hlt] at ha
              exact .inl (O'.s j a ha).1
            · simp only [if_neg hj, if_neg hlt] at ha
        · unfold WSL at h4; simp only [if_neg hl] at h4
      | _ => unfold WSL sApp at h; simp only [e0] at h
end
/-! ### a def that stands to be called -/
structure Av (P : Program) (w : World) (K : PySem.W.Frag) (mg : Str → Option Value) (base : Heap) (x : Str) (ps : List Str) (k : Nat) (sp : Sp) : Prop where
  ex : ∃ (f : Addr) (fd : FuncData), mg x = some (.ref f) ∧ PySem.W.keepIn K (.ref f) = true ∧ Binds K fd ps [] ∧ FnOk P w K mg base (L2.CX P w) k f fd ps sp
section
variable {X : Cx} {C : Ctx} {wx : WX} {g : Rg} {k kk kr np : Nat} {x : Str} {p pos : Pos} {e : Expr} {es : List Expr} {ps : List Str} {fm : FM} {ci : Option Nat} {ms : Mo (List D)}
theorem ve_callA (F : Av X.prog X.w X.K X.mg X.base x ps kk (spM C.K ci np kr fm)) (hp : ci = none → ∃ f, fm = pureF f) (hr : Room kk X.A) (tk : Takes X wx)
    (ha : PA X (e :: es) (WAc C wx .fz ci ms)) (hlen : LenM ms np) (hg : Gl X x := by rfl) (hdb : (x == ("__debug__" : Str)) = false := by decide) (he : starEach (e :: es) X.env = (false, eval e X.env) :: starEach es X.env := by rfl) (hpl : (backTo pos (starEach es X.env)).any (·.1) = false := by rfl) :
    PE X (.Call (.Name x p) (e :: es) [] pos) (W C wx .fz kr (mCall fm ms)) := by
  obtain ⟨f, fd, h1, h2, h3, h4⟩ := F.ex
  exact ve_call h4 hp hr h1 h2 h3 tk ha hlen hg hdb he hpl
theorem ve_callAb (F : Av X.prog X.w X.K X.mg X.base x ps kk (spM C.K ci np kr fm)) (hp : ci = none → ∃ f, fm = pureF f) (hr : Room kk X.A) (tk : Takes X wx)
    (ha : PA X (e :: es) (WAc C wx .bo ci ms)) (hlen : LenM ms np) (hg : Gl X x := by rfl) (hdb : (x == ("__debug__" : Str)) = false := by decide) (he : starEach (e :: es) X.env = (false, eval e X.env) :: starEach es X.env := by rfl) (hpl : (backTo pos (starEach es X.env)).any (·.1) = false := by rfl) :
    PE X (.Call (.Name x p) (e :: es) [] pos) (W C wx g k (mFlat (mCall fm ms))) := by
  obtain ⟨f, fd, h1, h2, h3, h4⟩ := F.ex
  exact ve_callb h4 hp hr h1 h2 h3 tk ha hlen hg hdb he hpl
end
/-! ### a def -/
def startD (N : Nat) (as : List D) : DS := as.map some ++ List.replicate (N - as.length) none
def outF : Option (Fl × Int × DS) → Option (Ot D × Int)
  | some (.nx, n, _) => some (.ok .non, n)
  | some (.rt d, n, _) => some (.ok d, n)
  | some (.ex c fs, n, _) => some (.ex c fs, n)
  | _ => none
/-- the plain function of a def without a cell | with the cell at i -/
def fn0 (N : Nat) (ms : MS) : List D → Option (Ot D) := fun as => (outF (ms 0 (startD N as))).map (·.1)
def fnC (i N : Nat) (ms : MS) : FM := fun n as => outF (ms n ((startD N as).set i none))
section
variable {P : Program} {w : World} {K : PySem.W.Frag} {mg : Str → Option Value} {base : Heap}
theorem sim_start {C : Ctx} {F H : Hp} {vs : List V} {as : List D} {N : List Str} {B : AS} {n : Int} {ci : Option Nat} (fh : Same F H) (hl : vs.length = as.length) (hr : ∀ (i : Nat) v d, ci ≠ some i → vs[i]? = some v → as[i]? = some d → Rp C.K F H 0 v d (fun _ => False)) (hT : ∀ i, i < vs.length → C.T i = 0)
    (hb : ∀ a, B a → F a = none ∧ ∃ o, H a = some o ∧ Mk o = true) (hc : ∀ q, C.q = some q → B q ∧ H q = some (.lst [.int n])) (hp : ∀ i v, C.pn i = some v → ci = some i ∧ vs[i]? = some v) : Sim C F B (start N vs) H n (match ci with | none => startD N.length as | some i => (startD N.length as).set i none) := by
  have hs : ∀ (i : Nat) d, (startD N.length as)[i]? = some (some d) → as[i]? = some d := fun i d e => by
    unfold startD at e
    by_cases h : i < as.length
    · rw [List.getElem?_append_left (by simpa using h), List.getElem?_map] at e
      cases h2 : as[i]? with
      | none => rw [h2] at e; cases e
      | some x => rw [h2] at e; cases e; rfl
    · rw [List.getElem?_append_right (by simpa using h), List.getElem?_replicate] at e
      split at e <;> cases e
  have hv : ∀ (i : Nat) v, vs[i]? = some v → (start N vs)[i]? = some (some v) := fun i v e => by
    unfold L2.start
    have h := (List.getElem?_eq_some_iff.mp e).1
    rw [List.getElem?_append_left (by simpa using h), List.getElem?_map, e]; rfl
  have lens : (start N vs).length = (startD N.length as).length := by
    unfold L2.start startD
    rw [List.length_append, List.length_append, List.length_map, List.length_map, List.length_replicate, List.length_replicate, hl]
  refine ⟨fh, hb, hc, fun i v h => hv i v (hp i v h).2, ?_, fun _ _ => False, fun i d e => ?_, fun _ _ h => h.elim, fun _ _ _ h => h.elim⟩
  · cases ci with
    | none => exact lens
    | some i => show _ = ((startD N.length as).set i none).length; rw [List.length_set]; exact lens
  · have key : ci ≠ some i ∧ (startD N.length as)[i]? = some (some d) := by
      cases ci with
      | none => exact ⟨by simp, e⟩
      | some j =>
        have e : ((startD N.length as).set j none)[i]? = some (some d) := e
        by_cases hj : j = i
        · subst hj
          by_cases hlt : j < (startD N.length as).length
          · rw [List.getElem?_set_self hlt] at e; cases e
          · rw [List.getElem?_eq_none (by simpa using hlt)] at e; cases e
        · rw [List.getElem?_set_ne hj] at e
          exact ⟨by simpa using hj, e⟩
    have h1 := hs i d key.2
    have hlt := (List.getElem?_eq_some_iff.mp h1).1
    have h2 : vs[i]? = some (vs[i]'(by omega)) := by simp [hl, hlt]
    refine ⟨_, hv i _ h2, ?_⟩
    rw [hT i (by omega)]
    exact hr i _ d key.1 h2 h1
theorem def_ok0 {x qual : Str} {params : Arguments} {body : List Stmt} {scope : Scope} {dvs : List V} {kws : List (Str × V)} {f : Addr} {fd : FuncData} {N ps : List Str} {k kr : Nat} {T : Nat → Nat} {ms : MS} (Fu : FunD K x qual params body scope dvs kws f fd) (S : FnScope N ps scope) (hT : ∀ i, i < ps.length → T i = 0)
    (hb : ∀ (cdv : Value) (A : Around) (outer : List Env) (s : Shared) (H : Hp) (E : XK), Room k (A.deeper (envOfC qual scope s.heap.objs.size f cdv)) →
      PSs (cxOf (L2.CX P w) P w K mg base N qual scope f cdv A outer s H E) body (WS ⟨K, none, T, fun _ => none⟩ (fun c d _ H => E c d H) kr ms)) :
    FnOk P w K mg base (L2.CX P w) (k + 1) f fd ps (spM K none ps.length kr (pureF (fn0 N.length ms))) := by
  refine Fu.ok S (fun vs H Q E h => h.1) (fun cdv A outer s H vs Q E hr h => ⟨_, hb cdv A outer s H E hr, ?_⟩)
  obtain ⟨hlen, F, q, n, as, fh, hq, _, hl, hrep, hm⟩ := h
  have hq := hq rfl
  subst hq
  refine ⟨F, fun _ => False, 0, startD N.length as, sim_start (ci := none) fh hl hrep (fun i hi => hT i (by rw [← hlen]; exact hi)) (fun _ h => h.elim) (fun _ h => by cases h) (fun _ _ h => by cases h), ?_⟩
  have go : ∀ {B' : AS} {F' H' : Hp}, GoS (fun _ => False) F H B' F' H' → GoC none F H F' H' := fun G => ⟨⟨G.ff, G.fh, fun a o e _ => G.hh a o e fun z => z, G.ht, fun a o n e => G.nf a o n e fun z => z⟩, G.dm⟩
  unfold pureF fn0 at hm
  unfold WSL
  cases e : ms 0 (startD N.length as) with
  | none => simp only [e, outF, Option.map_none] at hm
  | some pp =>
    obtain ⟨fl, n', ds'⟩ := pp
    cases fl with
    | nx =>
      simp only [e, outF, Option.map_some] at hm
      exact fun σ' F' B' H' G _ => hm .non F' H' (go G) (fun _ h => by cases h) ⟨fun _ => False, .non, Fr.no⟩
    | bk => simp only [e, outF, Option.map_none] at hm
    | ct => simp only [e, outF, Option.map_none] at hm
    | rt d =>
      simp only [e, outF, Option.map_some] at hm
      exact fun v B' F' H' A G _ r f => hm v F' H' (go G) (fun _ h => by cases h) ⟨A, r, fun a ha => ⟨(f a ha).1.elim (fun z => z.elim) id, (f a ha).2.1, (f a ha).2.2.2⟩⟩
    | ex c fs =>
      simp only [e, outF, Option.map_some] at hm
      exact fun σ' F' B' H' od G _ xr => hm F' H' od (go G) (fun _ h => by cases h) xr
theorem def_okC {x qual : Str} {params : Arguments} {body : List Stmt} {scope : Scope} {dvs : List V} {kws : List (Str × V)} {f : Addr} {fd : FuncData} {N ps : List Str} {k kr : Nat} {T : Nat → Nat} {ms : MS} (i : Nat) (hi : i < ps.length) (Fu : FunD K x qual params body scope dvs kws f fd) (S : FnScope N ps scope) (hT : ∀ i, i < ps.length → T i = 0)
    (hb : ∀ (cdv : Value) (A : Around) (outer : List Env) (s : Shared) (H : Hp) (E : XK) (a : Addr), Room k (A.deeper (envOfC qual scope s.heap.objs.size f cdv)) →
      PSs (cxOf (L2.CX P w) P w K mg base N qual scope f cdv A outer s H E) body (WS ⟨K, some a, T, fun j => if j = i then some (.ref a) else none⟩ (fun c d _ H => E c d H) kr ms)) :
    FnOk P w K mg base (L2.CX P w) (k + 1) f fd ps (spM K (some i) ps.length kr (fnC i N.length ms)) := by
  refine Fu.ok S (fun vs H Q E h => h.1) (fun cdv A outer s H vs Q E hr h => ?_)
  obtain ⟨hlen, F, q, n, as, fh, _, hq, hl, hrep, hm⟩ := h
  obtain ⟨a, rfl, hva, hHa, hFa⟩ := hq i rfl
  refine ⟨_, hb cdv A outer s H E a hr, F, fun b => b = a, n, (startD N.length as).set i none, sim_start (ci := some i) fh hl hrep (fun i hi => hT i (by rw [← hlen]; exact hi)) (fun b hb => by subst hb; exact ⟨hFa, _, hHa, rfl⟩) (fun q hq => by cases hq; exact ⟨rfl, hHa⟩) (fun j v h => by
    by_cases hj : j = i
    · subst hj
      simp only [if_true, Option.some.injEq] at h
      subst h
      exact ⟨rfl, hva⟩
    · simp only [if_neg hj] at h; cases h), ?_⟩
  have go : ∀ {B' : AS} {F' H' : Hp}, GoS (fun b => b = a) F H B' F' H' → F' a = none → GoC (some a) F H F' H' := fun G hF' => ⟨⟨G.ff, G.fh, fun b o e hne => G.hh b o e fun z => hne (by rw [z]), G.ht, fun b o n e => by
    by_cases hba : b = a
    · rw [hba]; exact hF'
    · exact G.nf b o n e hba⟩, G.dm⟩
  unfold fnC at hm
  unfold WSL
  cases e : ms n ((startD N.length as).set i none) with
  | none => simp only [e, outF] at hm
  | some pp =>
    obtain ⟨fl, n', ds'⟩ := pp
    cases fl with
    | nx =>
      simp only [e, outF] at hm
      exact fun σ' F' B' H' G S' => hm .non F' H' (go G (S'.bok a (S'.cell a rfl).1).1) (fun q h => by cases h; exact (S'.cell a rfl).2) ⟨fun _ => False, .non, Fr.no⟩
    | bk => simp only [e, outF] at hm
    | ct => simp only [e, outF] at hm
    | rt d =>
      simp only [e, outF] at hm
      exact fun v B' F' H' A G hc r f => hm v F' H' (go G (hc a rfl).2) (fun q h => by cases h; exact (hc a rfl).1) ⟨A, r, fun b ha => ⟨(f b ha).1.elim (fun z => by
        exact absurd (by rw [z]) (f b ha).2.2.1) id, (f b ha).2.1, (f b ha).2.2.2⟩⟩
    | ex c fs =>
      simp only [e, outF] at hm
      exact fun σ' F' B' H' od G S' xr => hm F' H' od (go G (S'.bok a (S'.cell a rfl).1).1) (fun q h => by cases h; exact (S'.cell a rfl).2) xr
end
end GW

namespace GW
open PySem L2 PyProof.Rows
section
variable {X : Cx} {C : Ctx} {wx : WX} {kr k : Nat} {g : Rg} {a b e : Expr} {pos : Pos} {m : M}
/-! ### the counting cell -/
def mCell : M := fun n _ => some (.ok (.int n), n)
theorem ve_cell {i : Nat} (h : PE X a (tVar i)) (hq : ∃ q, C.q = some q ∧ C.pn i = some (.ref q)) (hb : PE X b (tC (.int 0))) (hs : PlainIx b := by intro _ _; rfl) (hK : X.K = C.K := by rfl) : PE X (.Subscript a b pos) (W C wx g k mCell) := by
  refine (pe_ix (r := rIxL C.K) (by rw [← hK]; exact ix_list) h hb hs).wk fun σ H Q w => ?_
  obtain ⟨F, B, n, ds, S, h⟩ := w
  obtain ⟨q, hq1, hq2⟩ := hq
  have hh : ∀ v F' H', GoC C.q F H F' H' → Sim C F' B σ H' n ds → RV C g k H F' H' v (.int n) → Q v H' := h
  exact ⟨_, S.pin i _ hq2, q, [.int n], 0, .int n, rfl, rfl, .inl (.inl (S.cell q hq1).2), rfl, hh _ F H (GoC.refl S.fh) S ⟨fun _ => False, .int, Fr.no⟩⟩
def sCell (m : M) : MS := sE m fun d n ds => match d with
  | .int i => some (.nx, i, ds)
  | _ => none
theorem ws_cell {i : Nat} {p2 : Pos} (he : PE X e (W C wx .bo 0 m)) (h : PE X a (tVar i)) (hq : ∃ q, C.q = some q ∧ C.pn i = some (.ref q)) (hb : PE X b (tC (.int 0)))
    (ha : ∀ v, assign (.Subscript a b p2) X.env v = (do
      let ov ← holding [v] (eval a X.env)
      let iv ← holding [v, ov] (eval b X.env)
      standAt p2
      holding [v, ov, iv] (setItem ov iv v)
      release [v, ov, iv] []) := by intro _; rfl) (hs : swapsWithSole [.Subscript a b p2] e pos.line X.env = pure false := by rfl) (hw : swappedStores [.Subscript a b p2] e X.env = pure none := by rfl) (h1 : (assignEach [.Subscript a b p2] X.env).map (·.2) = [assign (.Subscript a b p2) X.env] := by rfl) :
    PS X (.Assign [.Subscript a b p2] e pos) (WS C wx kr (sCell m)) := (ps_asg he (pg_sub h hb set_list ha) hs hw h1).wk fun E σ H w => by
  obtain ⟨F, B, n, ds, S, h⟩ := w
  obtain ⟨q, hq1, hq2⟩ := hq
  refine ⟨F, B, n, ds, S, (wsl_e (R := RV C .bo 0) S h).mono fun v H1 ⟨F1, n1, d, G1, S1, ⟨A, r1, f⟩, h4⟩ => ?_⟩
  cases d with
  | int j =>
    have ev := r1.int_
    subst ev
    obtain ⟨qB, hc⟩ := S1.cell q hq1
    refine ⟨_, S1.pin i _ hq2, q, [.int n1], 0, 0, rfl, rfl, hc, rfl, ?_⟩
    have hne : ∀ x o, F1 x = some o → x ≠ q := fun x o e z => by rw [z, (S1.bok q qB).1] at e; cases e
    refine h4 σ F1 B _ ((G1.toS S.qB).trans ⟨Same.refl _, fun x o e => by rw [upd_ne (hne x o e)]; exact S1.fh x o e, fun x o e nb => by rw [upd_ne (fun z => nb (by rw [z]; exact qB))]; exact e, fun x o e hm => by
      have : x ≠ q := fun z => by rw [z, hc] at e; cases e; cases hm
      rw [upd_ne this]; exact e, fun x o n _ _ => n, fun _ h => .inl h, fun x o e => by
      by_cases hx : x = q
      · exact ⟨_, by rw [hx]; exact upd_same⟩
      · exact ⟨o, by rw [upd_ne hx]; exact e⟩⟩) ?_
    refine ⟨fun x o e => by rw [upd_ne (hne x o e)]; exact S1.fh x o e, fun x hx => ?_, fun q' hq' => ?_, S1.pin, S1.len, ?_⟩
    · obtain ⟨z1, o, z2, z3⟩ := S1.bok x hx
      by_cases hxq : x = q
      · exact ⟨z1, _, by rw [hxq]; exact upd_same, rfl⟩
      · exact ⟨z1, o, by rw [upd_ne hxq]; exact z2, z3⟩
    · rw [hq1] at hq'
      cases hq'
      exact ⟨qB, upd_same⟩
    · obtain ⟨A0, h1, h2, h3⟩ := S1.rep
      refine ⟨A0, fun j d e => ?_, h2, h3⟩
      obtain ⟨w, e1, r⟩ := h1 j d e
      refine ⟨w, e1, r.mono (Same.refl _) (fun x o e hm => ?_) fun x o hx e => ?_⟩
      · have : x ≠ q := fun z => by rw [z, hc] at e; cases e; cases hm
        rw [upd_ne this]; exact e
      · have : x ≠ q := fun z => (h2 j x hx).2 (by rw [hq1, z])
        rw [upd_ne this]; exact e
  | _ => exact h4.elim
/-! ### zip of two lists, of two tuples -/
def zipD : List D → List D → List D
  | a :: as, b :: bs => .tup [a, b] :: zipD as bs
  | _, _ => []
def oZip : List D → Option (List D)
  | [.lst xs, .lst ys] => some (zipD xs ys)
  | [.tup xs, .tup ys] => some (zipD xs ys)
  | _ => none
def mZip (ms : Mo (List D)) : Mo (List D) := mb ms fun ds => ret (oZip ds)
theorem zipD_get : ∀ {xs ys : List D} {i : Nat} {d : D}, (zipD xs ys)[i]? = some d → ∃ a b, xs[i]? = some a ∧ ys[i]? = some b ∧ d = .tup [a, b]
  | [], _, i, d, h => by simp [zipD] at h
  | _ :: _, [], i, d, h => by simp [zipD] at h
  | a :: as, b :: bs, 0, d, h => by simp [zipD] at h; exact ⟨a, b, rfl, rfl, h.symm⟩
  | a :: as, b :: bs, i + 1, d, h => by
    obtain ⟨x, y, h1, h2, h3⟩ := zipD_get (xs := as) (ys := bs) (i := i) (by simpa [zipD] using h)
    exact ⟨x, y, by simpa using h1, by simpa using h2, h3⟩
theorem zipD_none : ∀ {xs ys : List D} {i : Nat}, (zipD xs ys)[i]? = none → xs.length ≤ i ∨ ys.length ≤ i
  | [], _, i, h => .inl (Nat.zero_le _)
  | _ :: _, [], i, h => .inr (Nat.zero_le _)
  | a :: as, b :: bs, 0, h => by simp [zipD] at h
  | a :: as, b :: bs, i + 1, h => by
    have := zipD_none (xs := as) (ys := bs) (i := i) (by simpa [zipD] using h)
    simp only [List.length_cons]; omega
theorem get_of {α β : Type} {xs : List α} {ys : List β} (l : xs.length = ys.length) {i : Nat} {y : β} (h : ys[i]? = some y) : ∃ x, xs[i]? = some x := by
  have := (List.getElem?_eq_some_iff.mp h).1
  exact ⟨xs[i]'(by omega), by simp [l, this]⟩
theorem vi_zip {ea eb : Expr} {elts : List Expr} {kk : Nat} {p tpos : Pos} {ms : Mo (List D)} (hm : X.mg "zip" = none) (ha : PA X [ea, eb] (WA C wx .fz ms)) (hg : Gl X "zip" := by rfl)
    (hs : starEach [ea, eb] X.env = (false, eval ea X.env) :: starEach [eb] X.env := by rfl) (hpl : (backTo pos (starEach [eb] X.env)).any (·.1) = false := by rfl) (hlen : LenM ms 2 := by exact LenM.cons (LenM.cons LenM.nil)) (hK : X.K = C.K := by rfl) :
    PI X (.Tuple elts kk tpos) (.Call (.Name "zip" p) [ea, eb] [] pos) (WI C wx (mZip ms)) := (RZ.pi_zipA hg hm ha hs hpl).wk fun σ H Q w => by
  obtain ⟨F, B, n, ds, S, h⟩ := w
  refine ⟨F, B, n, ds, S, WL.strong hlen ((h.bind (R := fun H F' H' vs as => RA C .fz H F' H' vs as ∧ as.length = 2) fun F1 H1 F2 H2 v d G r => r).mono fun vs H1 ⟨F1, n1, as, G1, S1, ⟨r1, hl⟩, h1⟩ => ?_)⟩
  obtain ⟨is, e, q⟩ := h1.retE
  rw [hK]
  match as, hl with
  | [d, d'], _ =>
    obtain ⟨v, v', rfl, r, r'⟩ := RpL.two r1
    unfold oZip at e
    split at e
    · rename_i xs ys hxy
      cases hxy
      cases e
      cases r with
      | @lst _ p1 vs1 _ hh1 l1 c1 =>
        cases r' with
        | @lst _ p2 vs2 _ hh2 l2 c2 =>
          refine ⟨p1, p2, vs1, vs2, rfl, .inl ⟨sqL_mono hh1 S1.fh, sqL_mono hh2 S1.fh, q _ F1 H1 (GoC.refl S1.fh) S1 fun F' H' L i => ?_⟩⟩
          have q1 : SqL C.K H' p1 vs1 := sqL_mono hh1 (L.ff.trans L.fh)
          have q2 : SqL C.K H' p2 vs2 := sqL_mono hh2 (L.ff.trans L.fh)
          refine ⟨fun d hd => ?_, fun hn0 => (fun hn => ?_) (len_none hn0)⟩
          · obtain ⟨x, y, g1, g2, rfl⟩ := zipD_get hd
            obtain ⟨w1, hw1⟩ := get_of l1 g1
            obtain ⟨w2, hw2⟩ := get_of l2 g2
            refine ⟨⟨vs1, vs2, w1, w2, q1, q2, hw1, hw2⟩, fun x2 H'' y2 => ?_⟩
            obtain ⟨T, z1, z2, e1, e2, e3, e4, e5⟩ := y2
            subst e1 e3
            have e4 := e4 vs1 q1
            have e5 := e5 vs2 q2
            rw [hw1] at e4
            rw [hw2] at e5
            cases e4; cases e5
            have hu : ∀ a o, H' a = some o → upd H' T (.tup [w1, w2]) a = some o := fun a o e => by rw [upd_ne (ne_of_none e e2)]; exact e
            refine ⟨.inr ⟨T, _, e2, rfl⟩, .tup (.inl (.inl upd_same)) rfl (RpL.cons (A := fun _ => False) ((Rp.z (c1 i w1 x hw1 g1)).mono L.ff (fun a o e h => hu a o (L.ht a o e h)) fun _ _ h => h.elim) (RpL.cons (A := fun _ => False) ((Rp.z (c2 i w2 y hw2 g2)).mono L.ff (fun a o e h => hu a o (L.ht a o e h)) fun _ _ h => h.elim) RpL.nil)).2⟩
          · have := zipD_none hn
            exact ⟨vs1, vs2, q1, q2, by omega⟩
    · rename_i xs ys hxy
      cases hxy
      cases e
      cases r with
      | @tup _ _ p1 vs1 _ hh1 l1 c1 =>
        cases r' with
        | @tup _ _ p2 vs2 _ hh2 l2 c2 =>
          refine ⟨p1, p2, vs1, vs2, rfl, .inr ⟨hh1, hh2, q _ F1 H1 (GoC.refl S1.fh) S1 fun F' H' L i => ?_⟩⟩
          have q1 : SqT C.K H' p1 vs1 := sqT_mono hh1 L.ht
          have q2 : SqT C.K H' p2 vs2 := sqT_mono hh2 L.ht
          refine ⟨fun d hd => ?_, fun hn0 => (fun hn => ?_) (len_none hn0)⟩
          · obtain ⟨x, y, g1, g2, rfl⟩ := zipD_get hd
            obtain ⟨w1, hw1⟩ := get_of l1 g1
            obtain ⟨w2, hw2⟩ := get_of l2 g2
            refine ⟨⟨vs1, vs2, w1, w2, q1, q2, hw1, hw2⟩, fun x2 H'' y2 => ?_⟩
            obtain ⟨T, z1, z2, e1, e2, e3, e4, e5⟩ := y2
            subst e1 e3
            have e4 := e4 vs1 q1
            have e5 := e5 vs2 q2
            rw [hw1] at e4
            rw [hw2] at e5
            cases e4; cases e5
            have hu : ∀ a o, H' a = some o → upd H' T (.tup [w1, w2]) a = some o := fun a o e => by rw [upd_ne (ne_of_none e e2)]; exact e
            refine ⟨.inr ⟨T, _, e2, rfl⟩, .tup (.inl (.inl upd_same)) rfl (RpL.cons (A := fun _ => False) ((Rp.z (c1 i w1 x hw1 g1)).mono L.ff (fun a o e h => hu a o (L.ht a o e h)) fun _ _ h => h.elim) (RpL.cons (A := fun _ => False) ((Rp.z (c2 i w2 y hw2 g2)).mono L.ff (fun a o e h => hu a o (L.ht a o e h)) fun _ _ h => h.elim) RpL.nil)).2⟩
          · have := zipD_none hn
            exact ⟨vs1, vs2, q1, q2, by omega⟩
    · cases e
end
end GW

namespace GW
open PySem L2 PyProof.Rows
/-! ### the cell is made -/
def Ctx.cellAt (C : Ctx) (i : Nat) (a : Addr) : Ctx := ⟨C.K, some a, C.T, fun j => if j = i then some (.ref a) else none⟩
def sNewCell (i : Nat) (c : Int) (m : MS) : MS := fun n ds => if i < ds.length then (match m c (ds.set i none) with
  | some (.nx, _, ds') => some (.nx, n, ds')
  | some (.rt d, _, ds') => some (.rt d, n, ds')
  | some (.ex c fs, _, ds') => some (.ex c fs, n, ds')
  | _ => none) else none
section
variable {X : Cx} {C : Ctx} {wx : WX} {kr k : Nat} {e : Expr} {pos : Pos} {m : MS}
theorem Sim.uncell {F H : Hp} {B : AS} {σ : L2.St} {n n0 : Int} {ds : DS} {i : Nat} {a : Addr} (S : Sim (C.cellAt i a) F B σ H n ds) (hq : C.q = none) (hp : ∀ j, C.pn j = none) : Sim C F B σ H n0 ds :=
  ⟨S.fh, S.bok, fun q h => (by rw [hq] at h; cases h), fun j v h => (by rw [hp j] at h; cases h), S.len, by
    obtain ⟨A, h1, h2, h3⟩ := S.rep
    exact ⟨A, h1, fun j a ha => ⟨(h2 j a ha).1, by rw [hq]; simp⟩, h3⟩⟩
theorem ws_newCell {i : Nat} {x : Str} {p' lpos : Pos} {j : Nat} {c : Int} {cp : Pos} {sts : List Stmt} (hq : C.q = none) (hp : ∀ j, C.pn j = none) (hN : X.N.Nodup) (hr : ∀ a, PSs X sts (WS (C.cellAt i a) wx kr m)) (hi : X.N[i]? = some x := by rfl) (hx : Loc X.env.scope x := by first | exact Or.inl rfl | exact Or.inr rfl)
    (hs : swapsWith (.List [.Constant (.int c) j cp] lpos) (some (.Name x p')) pos.line X.env = pure false := by rfl) (hf : X.fn x = true ∨ X.env.scope.names.lookup x = some .local := by first | exact .inl rfl | exact .inr rfl | assumption)
    (hst : starEach [.Constant (.int c) j cp] X.env = (false, eval (.Constant (.int c) j cp) X.env) :: starEach [] X.env := by rfl) :
    PSs X (.Assign [.Name x p'] (.List [.Constant (.int c) j cp] lpos) pos :: sts) (WS C wx kr (sNewCell i c m)) := by
  have hall : PSs X sts (fun E σ H => ∃ a, WS (C.cellAt i a) wx kr m E σ H) := ⟨fun pins s σ H E I h => by
    obtain ⟨a, h⟩ := h
    exact (hr a).run pins s σ H E I h⟩
  refine (pss_cons (ps_set hN hi hx (pe_lst (pa_cons pe_int pa_nil hst)) hs hf) hall).wk fun E σ H w => ?_
  obtain ⟨F, B, n, ds, S, h⟩ := w
  have hlt : i < ds.length := by
    by_cases hl : i < ds.length
    · exact hl
    · unfold WSL sNewCell at h; simp only [if_neg hl] at h
  refine ⟨by show 1 ≤ sizeLine; decide, fun p hpn => ⟨p, F, fun a => B a ∨ a = p, c, ds.set i none, ?_, ?_⟩⟩
  · have hFp : F p = none := none_some (fun a o e => ⟨o, S.fh a o e⟩) hpn
    have hup : ∀ a o, H a = some o → upd H p (.lst [.int c]) a = some o := fun a o e => by rw [upd_ne (ne_of_none e hpn)]; exact e
    refine ⟨fun a o e => hup a o (S.fh a o e), fun a ha => ?_, fun q e => ?_, fun j' v h' => ?_, ?_, ?_⟩
    · rcases ha with ha | ha
      · obtain ⟨z1, o, z2, z3⟩ := S.bok a ha
        exact ⟨z1, o, hup a o z2, z3⟩
      · subst ha; exact ⟨hFp, _, upd_same, rfl⟩
    · cases e
      exact ⟨.inr rfl, upd_same⟩
    · have h' : (if j' = i then some (V.ref p) else none) = some v := h'
      by_cases hj : j' = i
      · subst hj
        rw [if_pos rfl] at h'
        cases h'
        refine List.getElem?_set_self ?_
        rw [S.len]; exact hlt
      · rw [if_neg hj] at h'; cases h'
    · rw [List.length_set, List.length_set]; exact S.len
    · obtain ⟨A, h1, h2, h3⟩ := S.rep
      refine ⟨A, fun j' d e => ?_, fun j' a ha => ⟨.inl (h2 j' a ha).1, fun z => ?_⟩, h3⟩
      · by_cases hj : i = j'
        · subst hj
          by_cases hl : i < ds.length
          · rw [List.getElem?_set_self hl] at e; cases e
          · rw [List.getElem?_eq_none (by simpa using hl)] at e; cases e
        · rw [List.getElem?_set_ne hj] at e
          obtain ⟨v, e1, r⟩ := h1 j' d e
          exact ⟨v, by rw [List.getElem?_set_ne hj]; exact e1, r.mono (Same.refl _) (fun a o e _ => hup a o e) fun a o _ e => hup a o e⟩
      · cases z
        obtain ⟨_, o, z2, _⟩ := S.bok p (h2 j' p ha).1
        rw [hpn] at z2; cases z2
  · have G : GoS B F H (fun a => B a ∨ a = p) F (upd H p (.lst [.int c])) := by
      have g := (GoC.newO (q := none) (o := .lst [.int c]) S.fh hpn).toS (B := B) (fun _ h => by cases h)
      exact ⟨g.ff, g.fh, g.hh, g.ht, g.nf, fun a ha => ha.elim .inl fun z => .inr (by rw [z]; exact hpn), g.dm⟩
    unfold WSL sNewCell at h
    simp only [if_pos hlt] at h
    unfold WSL
    cases e : m c (ds.set i none) with
    | none => simp only [e] at h
    | some pp =>
      obtain ⟨fl, n', ds'⟩ := pp
      cases fl with
      | nx => simp only [e] at h; exact fun σ' F' B' H' G2 S2 => h σ' F' B' H' (G.trans G2) (S2.uncell hq hp)
      | bk => simp only [e] at h
      | ct => simp only [e] at h
      | rt d =>
        simp only [e] at h
        exact RtP.tr G (fun v B' F' H' A G2 _ r f => h v B' F' H' A G2 (fun q z => by rw [hq] at z; cases z) r fun a ha => ⟨(f a ha).1, (f a ha).2.1, by rw [hq]; simp, (f a ha).2.2.2⟩)
      | ex c fs => simp only [e] at h; exact fun σ' F' B' H' od G2 S2 x => h σ' F' B' H' od (G.trans G2) (S2.uncell hq hp) (x.trS G)
end
end GW

/-! the plain functions, reckoned -/
namespace GW
open PySem L2 PyProof.Rows
theorem iop_addIS {X : Cx} : OpR X (inplaceOp .Add) rAddIS := iop_add.or iop_add_str
section
variable {α β : Type} {n n1 : Int} {ds : DS}
@[simp] theorem ev_mb {m : Mo α} {f : α → Mo β} : mb m f n ds = match m n ds with
  | none => none
  | some (.ex C fs, n1) => some (.ex C fs, n1)
  | some (.ok a, n1) => f a n1 ds := (rfl)
@[simp] theorem ev_ret {a : α} : ret (some a) n ds = some (.ok a, n) := (rfl)
@[simp] theorem ev_var {i : Nat} : mVar i n ds = match ds[i]? with | some (some d) => some (.ok d, n) | _ => none := (rfl)
@[simp] theorem ev_C {d : D} : mC d n ds = some (.ok d, n) := (rfl)
@[simp] theorem ev_m2 {a b : M} {o : D → D → Option D} : m2 a b o n ds = mb a (fun x => mb b fun y => ret (o x y)) n ds := (rfl)
@[simp] theorem ev_m1 {a : M} {o : D → Option D} : m1 a o n ds = mb a (fun x => ret (o x)) n ds := (rfl)
@[simp] theorem ev_test {m : M} : mTest m n ds = mb m (fun d => ret (match d with | .bl b => some b | _ => none)) n ds := (rfl)
@[simp] theorem ev_not {t : Mo Bool} : mNot t n ds = mb t (fun b => ret (some (!b))) n ds := (rfl)
@[simp] theorem ev_and {t u : Mo Bool} : mAnd t u n ds = mb t (fun b => match b with | true => u | false => ret (some false)) n ds := (rfl)
@[simp] theorem ev_or {t u : Mo Bool} : mOr t u n ds = mb t (fun b => match b with | true => ret (some true) | false => u) n ds := (rfl)
@[simp] theorem ev_andV {a b : M} : mAndV a b n ds = mb a (fun d => match d with | .bl true => b | .bl false => ret (some (.bl false)) | _ => ret none) n ds := (rfl)
@[simp] theorem ev_orV {a b : M} : mOrV a b n ds = mb a (fun d => match d with | .bl true => ret (some (.bl true)) | .bl false => b | _ => ret none) n ds := (rfl)
@[simp] theorem ev_if {t : Mo Bool} {a b : M} : mIf t a b n ds = mb t (fun c => match c with | true => a | false => b) n ds := (rfl)
@[simp] theorem ev_tru {m : M} : mTru m n ds = mb m (fun d => ret (oTru d)) n ds := (rfl)
@[simp] theorem ev_cons {m : M} {ms : Mo (List D)} : mCons m ms n ds = mb m (fun d => mb ms fun ds => ret (some (d :: ds))) n ds := (rfl)
@[simp] theorem ev_cb {ms : Mo (List D)} {o : List D → Option D} : mCB ms o n ds = mb ms (fun ds => ret (o ds)) n ds := (rfl)
@[simp] theorem ev_call {fm : FM} {ms : Mo (List D)} : mCall fm ms n ds = mb ms (fun as => fun n _ => fm n as) n ds := (rfl)
@[simp] theorem ev_pure {f : List D → Option (Ot D)} {as : List D} : pureF f n as = (f as).map fun o => (o, n) := (rfl)
@[simp] theorem ev_flat {m : M} : mFlat m n ds = mb m (fun d => ret (if flat d = true then some d else none)) n ds := (rfl)
@[simp] theorem ev_cell : mCell n ds = some (.ok (.int n), n) := (rfl)
@[simp] theorem ev_lenN : ∀ {as : List D}, as.length ≤ 16777216 → (if as.length ≤ 16777216 then some as else none) = some as := fun h => if_pos h
@[simp] theorem ev_tup {ms : Mo (List D)} : mTup ms n ds = mb ms (fun ds => ret (if ds.length ≤ 16777216 then some (.tup ds) else none)) n ds := (rfl)
@[simp] theorem ev_lst {ms : Mo (List D)} : mLst ms n ds = mb ms (fun ds => ret (if ds.length ≤ 16777216 then some (.lst ds) else none)) n ds := (rfl)
@[simp] theorem ev_noPart : mNoPart n ds = some (.ok none, n) := (rfl)
@[simp] theorem ev_part {m : M} : mPart m n ds = mb m (fun d => ret (match d with | .int i => some (some i) | _ => none)) n ds := (rfl)
@[simp] theorem ev_sl {m : M} {a b : Mo (Option Int)} : mSl m a b n ds = mb m (fun d => mb a fun lo => mb b fun hi => ret (oSl lo hi d)) n ds := (rfl)
@[simp] theorem ev_3c {ma mc md : M} {o o' : D → D → Option D} : m3c ma mc md o o' n ds = mb ma (fun x => mb mc fun y => mb (ret (o x y)) fun z => match z with | .bl true => mb md fun w => ret (o' y w) | .bl false => ret (some (.bl false)) | _ => ret none) n ds := (rfl)
@[simp] theorem ev_itl {m : M} : mItL m n ds = mb m (fun d => ret (match d with | .lst ds => some ds | _ => none)) n ds := (rfl)
@[simp] theorem ev_itt {m : M} : mItT m n ds = mb m (fun d => ret (match d with | .tup ds => some ds | _ => none)) n ds := (rfl)
@[simp] theorem ev_its {m : M} : mItS m n ds = mb m (fun d => ret (match d with | .str x => some (signsD x) | _ => none)) n ds := (rfl)
@[simp] theorem ev_rng {ms : Mo (List D)} : mRng ms n ds = mb ms (fun ds => ret (oRng ds)) n ds := (rfl)
@[simp] theorem ev_zip {ms : Mo (List D)} : mZip ms n ds = mb ms (fun ds => ret (oZip ds)) n ds := (rfl)
@[simp] theorem ev_yes : mYes n ds = some (.ok true, n) := (rfl)
-- operators
@[simp] theorem ov_add {i j : Int} : oAdd (.int i) (.int j) = some (.int (i + j)) := (rfl)
@[simp] theorem ov_sub {i j : Int} : oSub (.int i) (.int j) = some (.int (i - j)) := (rfl)
@[simp] theorem ov_mul {i j : Int} : oMul (.int i) (.int j) = if mulOk i j = true then some (.int (i * j)) else none := (rfl)
@[simp] theorem ov_div {i j : Int} : oDiv (.int i) (.int j) = if divOk j = true then some (.int (i / j)) else none := (rfl)
@[simp] theorem ov_mod {i j : Int} : oMod (.int i) (.int j) = if 0 < j then some (.int (i % j)) else none := (rfl)
@[simp] theorem ov_neg {i : Int} : oNeg (.int i) = some (.int (-i)) := (rfl)
@[simp] theorem ov_lt {i j : Int} : oLt (.int i) (.int j) = some (.bl (decide (i < j))) := (rfl)
@[simp] theorem ov_le {i j : Int} : oLe (.int i) (.int j) = some (.bl (decide (i ≤ j))) := (rfl)
@[simp] theorem ov_gt {i j : Int} : oGt (.int i) (.int j) = some (.bl (decide (j < i))) := (rfl)
@[simp] theorem ov_ge {i j : Int} : oGe (.int i) (.int j) = some (.bl (decide (j ≤ i))) := (rfl)
@[simp] theorem ov_eqI {i j : Int} : oEq (.int i) (.int j) = some (.bl (decide (i = j))) := by
  show (if scal (V.int i) (V.int j) = true then some (D.bl (decide (V.int i = V.int j))) else none) = _
  rw [if_pos (by rfl)]
  congr 2
  simp
@[simp] theorem ov_neI {i j : Int} : oNe (.int i) (.int j) = some (.bl (!decide (i = j))) := by
  show (if scal (V.int i) (V.int j) = true then some (D.bl (!decide (V.int i = V.int j))) else none) = _
  rw [if_pos (by rfl)]
  congr 2
  simp
@[simp] theorem ov_eqB {i j : Bool} : oEq (.bl i) (.bl j) = some (.bl (decide (i = j))) := by
  show (if scal (V.bl i) (V.bl j) = true then some (D.bl (decide (V.bl i = V.bl j))) else none) = _
  rw [if_pos (by rfl)]
  congr 2
  simp
@[simp] theorem ov_neB {i j : Bool} : oNe (.bl i) (.bl j) = some (.bl (!decide (i = j))) := by
  show (if scal (V.bl i) (V.bl j) = true then some (D.bl (!decide (V.bl i = V.bl j))) else none) = _
  rw [if_pos (by rfl)]
  congr 2
  simp
@[simp] theorem ov_ixL {as : List D} {i : Int} : oIx (.lst as) (.int i) = atI as i := (rfl)
@[simp] theorem ov_ixT {as : List D} {i : Int} : oIx (.tup as) (.int i) = atI as i := (rfl)
@[simp] theorem ov_lenL {as : List D} : oLen [.lst as] = some (.int as.length) := (rfl)
@[simp] theorem ov_lenT {as : List D} : oLen [.tup as] = some (.int as.length) := (rfl)
@[simp] theorem ov_abs {i : Int} : oAbs [.int i] = some (.int (if i < 0 then -i else i)) := (rfl)
@[simp] theorem ov_divmod {i j : Int} : oDivmod [.int i, .int j] = if divOk j = true then some (.tup [.int (i / j), .int (i % j)]) else none := (rfl)
@[simp] theorem ov_isi {T : String} {d : D} : oIsi T d = (isT T d).map D.bl := (rfl)
@[simp] theorem ov_isT1 {T : String} : isT T .non = some false := (rfl)
@[simp] theorem ov_isT2 {T : String} {b : Bool} : isT T (.bl b) = some (T == "bool" || T == "int") := (rfl)
@[simp] theorem ov_isT3 {T : String} {i : Int} : isT T (.int i) = some (T == "int") := (rfl)
@[simp] theorem ov_isT4 {T : String} {x : Str} : isT T (.str x) = some (T == "str") := (rfl)
@[simp] theorem ov_isT5 {T : String} {as : List D} : isT T (.tup as) = some (T == "tuple") := (rfl)
@[simp] theorem ov_isT6 {T : String} {as : List D} : isT T (.lst as) = some (T == "list") := (rfl)
@[simp] theorem ov_isT7 {T : String} {as : List (Key × D)} : isT T (.dct as) = some (T == "dict") := (rfl)
@[simp] theorem ov_pow {i j : Int} : oPow (.int i) (.int j) = if powOk i j = true then some (.int (i ^ j.toNat)) else none := (rfl)
@[simp] theorem ov_rng1 {j : Int} : oRng [.int j] = if r62 j = true then some (rngD 0 j.toNat) else none := (rfl)
@[simp] theorem ov_rng2 {i j : Int} : oRng [.int i, .int j] = if r62 i = true ∧ r62 j = true then some (rngD i (j - i).toNat) else none := (rfl)
@[simp] theorem at0 {α : Type} {a : α} {l : List α} : atI (a :: l) 0 = some a := by
  unfold atI ixN; simp
@[simp] theorem at1 {α : Type} {a b : α} {l : List α} : atI (a :: b :: l) 1 = some b := by
  unfold atI ixN
  rw [if_pos (by omega), if_pos (by simp only [List.length_cons]; omega)]
  rfl
-- statements
@[simp] theorem sv_nx : sNx n ds = some (.nx, n, ds) := (rfl)
@[simp] theorem sv_bk : sBk n ds = some (.bk, n, ds) := (rfl)
@[simp] theorem sv_ct : sCt n ds = some (.ct, n, ds) := (rfl)
@[simp] theorem sv_none : sNone n ds = none := (rfl)
@[simp] theorem sv_seq {a b : MS} : sSeq a b n ds = match a n ds with
  | some (.nx, n1, ds1) => b n1 ds1
  | r => r := (rfl)
@[simp] theorem sv_E {m : Mo α} {f : α → MS} : sE m f n ds = match m n ds with
  | none => none
  | some (.ex C fs, n1) => some (.ex C fs, n1, ds)
  | some (.ok a, n1) => f a n1 ds := (rfl)
@[simp] theorem sv_if {t : Mo Bool} {a b : MS} : sIf t a b n ds = sE t (fun c => match c with | true => a | false => b) n ds := (rfl)
@[simp] theorem sv_set {i : Nat} {m : M} : sSet i m n ds = sE m (fun d n ds => some (.nx, n, ds.set i (some d))) n ds := (rfl)
@[simp] theorem sv_aug {i : Nat} {m : M} {o : D → D → Option D} : sAug i m o n ds = match ds[i]? with
  | some (some d0) => sE m (fun d n ds => match o d0 d with
    | some d2 => some (.nx, n, ds.set i (some d2))
    | none => none) n ds
  | _ => none := (rfl)
@[simp] theorem sv_drop {m : M} : sDrop m n ds = sE m (fun _ n ds => some (.nx, n, ds)) n ds := (rfl)
@[simp] theorem sv_ret {m : M} : sRet m n ds = sE m (fun d n ds => some (.rt d, n, ds)) n ds := (rfl)
@[simp] theorem sv_retV {i : Nat} : sRetV i n ds = match ds[i]? with | some (some d) => some (.rt d, n, ds) | _ => none := (rfl)
@[simp] theorem sv_asg {tg : Tg} {m : M} : sAsg tg m n ds = sE m (fun d n ds => match tg.bind d ds with
  | some ds' => some (.nx, n, ds')
  | none => none) n ds := (rfl)
@[simp] theorem sv_par {i j : Nat} {ms : Mo (List D)} : sPar i j ms n ds = sE ms (fun as n ds => match as with
  | [a, b] => some (.nx, n, (ds.set i (some a)).set j (some b))
  | _ => none) n ds := (rfl)
@[simp] theorem sv_cell {m : M} : sCell m n ds = sE m (fun d n ds => match d with
  | .int i => some (.nx, i, ds)
  | _ => none) n ds := (rfl)
@[simp] theorem tb_one {i : Nat} {d : D} : (Tg.one i).bind d ds = some (ds.set i (some d)) := (rfl)
@[simp] theorem tb_tup {is : List Nat} {as : List D} : (Tg.tup is).bind (.tup as) ds = bindL is as ds := (rfl)
@[simp] theorem tb_nil : bindL [] [] ds = some ds := (rfl)
@[simp] theorem tb_cons {i : Nat} {is : List Nat} {d : D} {as : List D} : bindL (i :: is) (d :: as) ds = bindL is as (ds.set i (some d)) := (rfl)
@[simp] theorem sv_for {mi : Mo (List D)} {tg : Tg} {body : MS} : sFor mi tg body n ds = sE mi (fun as => forL tg body as) n ds := (rfl)
@[simp] theorem sv_forNil {tg : Tg} {body : MS} : forL tg body [] n ds = some (.nx, n, ds) := (rfl)
theorem sv_forCons {tg : Tg} {body : MS} {d : D} {r : List D} : forL tg body (d :: r) n ds = match tg.bind d ds with
    | none => none
    | some ds1 => match body n ds1 with
      | none => none
      | some (.nx, n', ds') => forL tg body r n' ds'
      | some (.ct, n', ds') => forL tg body r n' ds'
      | some (.bk, n', ds') => some (.nx, n', ds')
      | some (.rt d, n', ds') => some (.rt d, n', ds')
      | some (.ex c fs, n', ds') => some (.ex c fs, n', ds') := rfl
@[simp] theorem sv_while {t : Mo Bool} {body : MS} : sWhile t body n ds = whileL t body FUEL n ds := (rfl)
@[simp] theorem of_nx : outF (some (.nx, n, ds)) = some (.ok .non, n) := (rfl)
@[simp] theorem of_rt {d : D} : outF (some (.rt d, n, ds)) = some (.ok d, n) := (rfl)
@[simp] theorem of_ex {c : Addr} {fs : List (Str × Int)} : outF (some (.ex c fs, n, ds)) = some (.ex c fs, n) := (rfl)
theorem seq_nx {a b : MS} {ds1 : DS} {r : Option (Fl × Int × DS)} (h : a n ds = some (.nx, n1, ds1)) (h2 : b n1 ds1 = r) : sSeq a b n ds = r := by
  unfold sSeq; rw [h]; exact h2
theorem seq_rt {a b : MS} {ds1 : DS} {d : D} (h : a n ds = some (.rt d, n1, ds1)) : sSeq a b n ds = some (.rt d, n1, ds1) := by
  unfold sSeq; rw [h]
theorem seq_ex {a b : MS} {ds1 : DS} {c : Addr} {fs : List (Str × Int)} (h : a n ds = some (.ex c fs, n1, ds1)) : sSeq a b n ds = some (.ex c fs, n1, ds1) := by
  unfold sSeq; rw [h]
theorem E_ok {m : Mo α} {f : α → MS} {a : α} {r : Option (Fl × Int × DS)} (h : m n ds = some (.ok a, n1)) (h2 : f a n1 ds = r) : sE m f n ds = r := by
  unfold sE; rw [h]; exact h2
theorem for_of {mi : Mo (List D)} {tg : Tg} {body : MS} {as : List D} {r : Option (Fl × Int × DS)} (h : mi n ds = some (.ok as, n1)) (h2 : forL tg body as n1 ds = r) : sFor mi tg body n ds = r := E_ok h h2
theorem set_of {i : Nat} {m : M} {d : D} (h : m n ds = some (.ok d, n1)) : sSet i m n ds = some (.nx, n1, ds.set i (some d)) := E_ok h (Eq.refl _)
theorem ret_of {m : M} {d : D} (h : m n ds = some (.ok d, n1)) : sRet m n ds = some (.rt d, n1, ds) := E_ok h (Eq.refl _)
theorem if_t {t : Mo Bool} {a b : MS} {r : Option (Fl × Int × DS)} (h : t n ds = some (.ok true, n1)) (h2 : a n1 ds = r) : sIf t a b n ds = r := E_ok h h2
theorem if_f {t : Mo Bool} {a b : MS} {r : Option (Fl × Int × DS)} (h : t n ds = some (.ok false, n1)) (h2 : b n1 ds = r) : sIf t a b n ds = r := E_ok h h2
theorem newCell_rt {i : Nat} {c : Int} {m : MS} {n' : Int} {d : D} {ds' : DS} (hi : i < ds.length) (h : m c (ds.set i none) = some (.rt d, n', ds')) : outF (sNewCell i c m n ds) = some (.ok d, n) := by
  unfold sNewCell
  rw [if_pos hi, h]
  rfl
theorem fn0_of {N : Nat} {ms : MS} {as : List D} {d : D} (h : outF (ms 0 (startD N as)) = some (.ok d, 0)) : fn0 N ms as = some (.ok d) := by
  unfold fn0; rw [h]; rfl
end

/-! ### loops -/
/-- a for that is walked: P holds ahead of item i; a step goes on or ends the loop with an answer that R allows -/
theorem forL_run {tg : Tg} {body : MS} {as : List D} (P : Nat → Int → DS → Prop) (R : Fl × Int × DS → Prop)
    (step : ∀ i d n ds, as[i]? = some d → P i n ds → ∃ ds1, tg.bind d ds = some ds1 ∧ ∃ fl n' ds', body n ds1 = some (fl, n', ds') ∧
      match fl with | .nx => P (i + 1) n' ds' | .ct => P (i + 1) n' ds' | .bk => R (.nx, n', ds') | .rt d => R (.rt d, n', ds') | .ex c fs => R (.ex c fs, n', ds'))
    (fin : ∀ n ds, P as.length n ds → R (.nx, n, ds)) {n : Int} {ds : DS} (h : P 0 n ds) : ∃ r, forL tg body as n ds = some r ∧ R r := by
  have key : ∀ (m i : Nat), m + i = as.length → ∀ n ds, P i n ds → ∃ r, forL tg body (as.drop i) n ds = some r ∧ R r := by
    intro m
    induction m with
    | zero =>
      intro i hi n ds hp
      rw [List.drop_eq_nil_of_le (by omega)]
      have : i = as.length := by omega
      subst this
      exact ⟨_, rfl, fin n ds hp⟩
    | succ m ih =>
      intro i hi n ds hp
      have hlt : i < as.length := by omega
      rw [List.drop_eq_getElem_cons hlt, sv_forCons]
      obtain ⟨ds1, h1, fl, n', ds', h2, h3⟩ := step i _ n ds (List.getElem?_eq_getElem hlt) hp
      simp only [h1, h2]
      cases fl with
      | nx => exact ih (i + 1) (by omega) n' ds' h3
      | ct => exact ih (i + 1) (by omega) n' ds' h3
      | bk => exact ⟨_, rfl, h3⟩
      | rt d => exact ⟨_, rfl, h3⟩
      | ex c fs => exact ⟨_, rfl, h3⟩
  have := key as.length 0 (by omega) n ds h
  rwa [List.drop_zero] at this
/-- no step ends it -/
theorem forL_inv {tg : Tg} {body : MS} {as : List D} (P : Nat → Int → DS → Prop)
    (step : ∀ i d n ds, as[i]? = some d → P i n ds → ∃ ds1, tg.bind d ds = some ds1 ∧ ∃ n' ds', body n ds1 = some (.nx, n', ds') ∧ P (i + 1) n' ds') {n : Int} {ds : DS} (h : P 0 n ds) : ∃ n' ds', forL tg body as n ds = some (.nx, n', ds') ∧ P as.length n' ds' := by
  obtain ⟨r, h1, n', ds', h2, h3⟩ := forL_run (tg := tg) (body := body) (as := as) P (fun r => ∃ n' ds', r = (.nx, n', ds') ∧ P as.length n' ds') (fun i d n ds h1 h2 => by
    obtain ⟨ds1, h3, n', ds', h4, h5⟩ := step i d n ds h1 h2
    exact ⟨ds1, h3, .nx, n', ds', h4, h5⟩) (fun n ds hp => ⟨n, ds, rfl, hp⟩) h
  subst h2
  exact ⟨n', ds', h1, h3⟩
theorem whileL_run {t : Mo Bool} {body : MS} (P : Nat → Int → DS → Prop) (R : Fl × Int × DS → Prop)
    (step : ∀ m n ds, P m n ds → ∃ b n1, t n ds = some (.ok b, n1) ∧ match b with
      | false => R (.nx, n1, ds)
      | true => ∃ fl n' ds', body n1 ds = some (fl, n', ds') ∧
        match fl with | .nx => (∃ m', m' < m ∧ P m' n' ds') | .ct => (∃ m', m' < m ∧ P m' n' ds') | .bk => R (.nx, n', ds') | .rt d => R (.rt d, n', ds') | .ex c fs => R (.ex c fs, n', ds')) :
    ∀ (fuel m : Nat) {n : Int} {ds : DS}, P m n ds → m < fuel → ∃ r, whileL t body fuel n ds = some r ∧ R r
  | 0, m, n, ds, _, h => absurd h (Nat.not_lt_zero _)
  | fuel + 1, m, n, ds, hp, hf => by
    obtain ⟨b, n1, h1, h2⟩ := step m n ds hp
    show ∃ r, sE t _ n ds = some r ∧ R r
    simp only [sv_E, h1]
    cases b with
    | false => exact ⟨_, rfl, h2⟩
    | true =>
      obtain ⟨fl, n', ds', h3, h4⟩ := h2
      simp only [h3]
      cases fl with
      | nx => obtain ⟨m', h5, h6⟩ := h4; exact whileL_run P R step fuel m' h6 (by omega)
      | ct => obtain ⟨m', h5, h6⟩ := h4; exact whileL_run P R step fuel m' h6 (by omega)
      | bk => exact ⟨_, rfl, h4⟩
      | rt d => exact ⟨_, rfl, h4⟩
      | ex c fs => exact ⟨_, rfl, h4⟩
theorem fuel_lt {m k : Nat} (h : m < 2 ^ k) (hk : k ≤ 100000) : m < FUEL := by
  unfold FUEL
  exact Nat.lt_of_lt_of_le h (Nat.pow_le_pow_right (by decide) hk)

/-! ### sizes -/
def Sz (k : Nat) (i : Int) : Prop := i.natAbs < 2 ^ k
theorem log2_lt {n k : Nat} (h : n < 2 ^ k) (hk : 0 < k) : n.log2 < k := by
  by_cases h0 : n = 0
  · subst h0; exact hk
  · exact (Nat.log2_lt h0).mpr h
theorem mulOk_of {i j : Int} {a b : Nat} (hi : Sz a i) (hj : Sz b j) (h : a + b < 999999) : mulOk i j = true := by
  unfold mulOk
  have h1 : i.natAbs.log2 < a + 1 := log2_lt (Nat.lt_of_lt_of_le hi (Nat.pow_le_pow_right (by decide) (by omega))) (by omega)
  have h2 : j.natAbs.log2 < b + 1 := log2_lt (Nat.lt_of_lt_of_le hj (Nat.pow_le_pow_right (by decide) (by omega))) (by omega)
  exact dec_of (.inr (.inr (by omega)))
theorem divOk_of {j : Int} {a : Nat} (h0 : 0 < j) (hj : Sz a j) (h : a ≤ 8999) : divOk j = true := by
  unfold divOk
  have h2 : j.natAbs.log2 < a + 1 := log2_lt (Nat.lt_of_lt_of_le hj (Nat.pow_le_pow_right (by decide) (by omega))) (by omega)
  exact dec_of ⟨h0, by omega⟩
theorem mulR {i j : Int} (h : -18446744073709551616 < j ∧ j < 18446744073709551616) : mulOk i j = true := dec_of (.inr (.inl h))
theorem mulL {i j : Int} (h : -18446744073709551616 < i ∧ i < 18446744073709551616) : mulOk i j = true := dec_of (.inl h)
theorem divL {j : Int} (h : 0 < j ∧ j < 18446744073709551616) : divOk j = true := divOk_of (a := 64) h.1 (by unfold Sz; omega) (by decide)
theorem powL {i j : Int} (h : 0 ≤ j ∧ j ≤ 1000000 ∧ i.natAbs < 18446744073709551616) : powOk i j = true := dec_of h
theorem r62_of {i : Int} (h : -4611686018427387904 ≤ i ∧ i < 4611686018427387904) : r62 i = true := dec_of h
theorem Sz.mono {i : Int} {a b : Nat} (h : Sz a i) (hab : a ≤ b) : Sz b i := Nat.lt_of_lt_of_le h (Nat.pow_le_pow_right (by decide) hab)
theorem Sz.mul {i j : Int} {a b : Nat} (hi : Sz a i) (hj : Sz b j) : Sz (a + b) (i * j) := by
  unfold Sz at *
  rw [Int.natAbs_mul, Nat.pow_add]
  exact Nat.mul_lt_mul_of_lt_of_le hi (Nat.le_of_lt hj) (Nat.pow_pos (by decide))
theorem Sz.add {i j : Int} {a : Nat} (hi : Sz a i) (hj : Sz a j) : Sz (a + 1) (i + j) := by
  unfold Sz at *
  rw [Nat.pow_succ]
  omega
theorem Sz.neg {i : Int} {a : Nat} (hi : Sz a i) : Sz a (-i) := by
  unfold Sz at *
  omega
/-! ### the law's own call -/
theorem law_call {K : PySem.W.Frag} {f : List D → Option (Ot D)} {ns : List Int} {H : Hp} {a : Addr} {Q : VK} {E : XK} (h : f [.lst (ns.map D.int)] = some (.ok (.bl true))) (hS : SqL K H a (ns.map V.int)) (hQ : ∀ H', Q (.bl true) H' := by intro _; rfl) : spM K none 1 0 (pureF f) [.ref a] H Q E := by
  refine ⟨rfl, H, none, 0, [.lst (ns.map D.int)], Same.refl _, fun _ => rfl, (fun i hi => by cases hi), rfl, fun i v d _ h1 h2 => ?_, ?_⟩
  · cases i with
    | zero =>
      simp only [List.getElem?_cons_zero, Option.some.injEq] at h1 h2
      subst h1 h2
      refine .lst hS (by simp) fun j v d h3 h4 => ?_
      rw [List.getElem?_map] at h3 h4
      cases e : ns[j]? with
      | none => rw [e] at h3; cases h3
      | some x =>
        rw [e] at h3 h4
        cases h3; cases h4
        exact .int
    | succ i => simp at h1
  · unfold pureF
    rw [h]
    intro v F' H' _ _ r
    obtain ⟨A, r, _⟩ := r
    rw [r.bl_]
    exact hQ H'
theorem fn_law {P : Program} {w : World} {K : PySem.W.Frag} {mg : Str → Option Value} {base : Heap} {k : Nat} {f : Addr} {fd : FuncData} {ps : List Str} {sp : Sp} (h : FnOk P w K mg base (L2.CX P w) k f fd ps sp) : FnOk P w K mg base CX0 k f fd ps (fun vs H Q _ => sp vs H Q (fun _ _ _ => False)) :=
  ⟨fun vs H Q E z => h.len vs H Q _ z, fun A outer s H args us vs Q E hr e0 hb hv z => codeAny_mono (h.run A outer s H args us vs Q _ hr e0 hb hv z) fun r s' c => by
    match r, c with
    | .ok (.ret u), c => exact c
    | .error e, c => obtain ⟨_, _, _, _, _, _, _, _, _, _, _, _, z⟩ := c; exact z.elim⟩
end GW

/-! zip and enumerate of lists, tuples, texts in any mix -/
namespace GW
open PySem L2 PyProof.Rows
/-- what is gone through -/
inductive Src where
  | lst (a : Addr) | tup (a : Addr) | txt (x : Str) (t : Tok)
def Src.val : Src → Value
  | .lst a => .ref a
  | .tup a => .ref a
  | .txt x t => .str x t
/-- the iterator over it, at it, behind i items -/
def Src.tn : Src → Addr → Nat → Heap → Prop
  | .lst a, it, i, h => h.IsListIter it a i
  | .tup a, it, i, h => h.IsTupleIter it a i
  | .txt x t, it, i, h => h.IsStrIter it (strIterType x) x t i
/-- its items -/
def Src.its (K : PySem.W.Frag) (H : Hp) : Src → List V → Prop
  | .lst a, vs => SqL K H a vs
  | .tup a, vs => SqT K H a vs
  | .txt x _, vs => vs = x.cps.toList.map fun c => V.str ⟨#[c]⟩
def Src.fp : Src → List Addr
  | .lst a => [a]
  | .tup a => [a]
  | .txt _ _ => []
def Src.obj : Src → Obj
  | .lst a => { cls := .type "list_iterator", data := .fields #[.ref a, .int 0 0] }
  | .tup a => { cls := .type "tuple_iterator", data := .fields #[.ref a, .int 0 0] }
  | .txt x t => { cls := .type (strIterType x), data := .fields #[.str x t, .int 0 0] }
theorem Src.tn_obj {S : Src} {it : Addr} {i : Nat} {h : Heap} (t : S.tn it i h) : ∃ o, h.get? it = some o ∧ ∀ v, o.data ≠ .cell v := by
  cases S <;> (obtain ⟨o, e1, _, d1⟩ := t; exact ⟨o, e1, fun v q => by rw [d1] at q; cases q⟩)
theorem Src.tn_at {S : Src} {it : Addr} {i : Nat} {h h' : Heap} (t : S.tn it i h) (k : ∀ o, h.get? it = some o → h'.get? it = some o) : S.tn it i h' := by
  cases S <;> (obtain ⟨o, e1, r⟩ := t; exact ⟨o, k o e1, r⟩)
theorem Src.tn0 {S : Src} {it : Addr} {h : Heap} (e : h.get? it = some S.obj) : S.tn it 0 h := by
  cases S <;> exact ⟨_, e, rfl, rfl⟩
theorem Src.inj {X : Cx} {pins : List (Addr × Obj)} {σ : L2.St} {H : Hp} {s : Shared} {S : Src} {xs ys : List V} (I : Inv X pins σ H s) (h : S.its X.K H xs) (h' : S.its X.K H ys) : xs = ys := by
  cases S with
  | lst a => exact I.list_inj h h'
  | tup a => exact I.tuple_inj h h'
  | txt x t => rw [show xs = _ from h, show ys = _ from h']
/-- the items drawn, at a state -/
theorem Src.draws {X : Cx} {pins : List (Addr × Obj)} {σ : L2.St} {H : Hp} {s : Shared} {S : Src} {xs : List V} (I : Inv X pins σ H s) (hh : X.A.handled = none) (h : S.its X.K H xs) {it : Addr} (hne : it ∉ S.fp) :
    ∃ (P : Nat → Value → Prop) (St : Nat → Heap → Prop), Draws X.prog X.w X.A.in1 it (it :: S.fp) xs.length P St ∧ (∀ i, S.tn it i s.heap → St i s.heap) ∧ (∀ i h, St i h → S.tn it i h) ∧ ∀ i v, P i v → ∃ y, xs[i]? = some y ∧ RelV y v := by
  cases S with
  | lst a =>
    obtain ⟨its, rv, p, _⟩ := I.list h
    have hl := rv.length
    refine ⟨fun i v => its.toArray[i]? = some v, fun i h => h.IsListIter it a i ∧ h.IsList a its.toArray, ?_, fun i t => ⟨t, p.isList⟩, fun i h t => t.1, fun i v e => ?_⟩
    · show Draws X.prog X.w X.A.in1 it [it, a] _ _ _
      have := Draws.list (prog := X.prog) (w := X.w) (A := X.A.in1) hh it a (fun z => hne (by simp [Src.fp, z])) its.toArray
      rw [hl]; simpa using this
    · have e' : its[i]? = some v := by simpa using e
      have hlt := (List.getElem?_eq_some_iff.mp e').1
      have hx : xs[i]? = some (xs[i]'(by omega)) := List.getElem?_eq_getElem (by omega)
      obtain ⟨u, hu, ru⟩ := rv.get hx
      rw [e'] at hu; cases hu
      exact ⟨_, hx, ru⟩
  | tup a =>
    obtain ⟨its, rv, p, _⟩ := I.tuple h
    have hl := rv.length
    refine ⟨fun i v => its.toArray[i]? = some v, fun i h => h.IsTupleIter it a i ∧ h.IsTuple a its.toArray, ?_, fun i t => ⟨t, p⟩, fun i h t => t.1, fun i v e => ?_⟩
    · show Draws X.prog X.w X.A.in1 it [it, a] _ _ _
      have := Draws.tuple (prog := X.prog) (w := X.w) (A := X.A.in1) hh it a (fun z => hne (by simp [Src.fp, z])) its.toArray
      rw [hl]; simpa using this
    · have e' : its[i]? = some v := by simpa using e
      have hlt := (List.getElem?_eq_some_iff.mp e').1
      have hx : xs[i]? = some (xs[i]'(by omega)) := List.getElem?_eq_getElem (by omega)
      obtain ⟨u, hu, ru⟩ := rv.get hx
      rw [e'] at hu; cases hu
      exact ⟨_, hx, ru⟩
  | txt x t =>
    have h : xs = x.cps.toList.map fun c => V.str ⟨#[c]⟩ := h
    subst h
    refine ⟨_, _, by rw [List.length_map, Array.length_toList]; exact Draws.text (prog := X.prog) (w := X.w) (A := X.A.in1) hh it x t, fun i t => t, fun i h t => t, fun i v e => ?_⟩
    obtain ⟨c, u, e1, rfl⟩ := e
    refine ⟨.str ⟨#[c]⟩, ?_, ⟨u, rfl⟩⟩
    rw [List.getElem?_map, Array.getElem?_toList, e1]
    rfl
/-- the pairs of two things -/
def ItZ (K : PySem.W.Frag) (S1 S2 : Src) : It :=
  ⟨fun i H => ∃ (xs ys : List V) (x y : V), S1.its K H xs ∧ S2.its K H ys ∧ xs[i]? = some x ∧ ys[i]? = some y,
    fun i H v H' => ∃ T x y, v = .ref T ∧ H T = none ∧ H' = upd H T (.tup [x, y]) ∧ (∀ xs, S1.its K H xs → xs[i]? = some x) ∧ ∀ ys, S2.its K H ys → ys[i]? = some y,
    fun i H => ∃ xs ys : List V, S1.its K H xs ∧ S2.its K H ys ∧ min xs.length ys.length = i⟩
/-- the numbered items of a thing -/
def ItE (K : PySem.W.Frag) (S : Src) : It :=
  ⟨fun i H => ∃ (xs : List V) (x : V), S.its K H xs ∧ xs[i]? = some x,
    fun i H v H' => ∃ T x, v = .ref T ∧ H T = none ∧ H' = upd H T (.tup [.int i, x]) ∧ ∀ xs, S.its K H xs → xs[i]? = some x,
    fun i H => ∃ xs : List V, S.its K H xs ∧ xs.length = i⟩
theorem tupObj {P : Program} {w : World} {H : Hp} {T : Addr} {x y : V} {u v : Value} {h : Heap} (ru : RelV x u) (rv : RelV y v) (hT : h.IsTuple T #[u, v]) : ObjOk P w (upd H T (.tup [x, y])) h T (.tup [x, y]) :=
  ⟨by show 2 ≤ sizeLine; decide, [u, v], .cons ru (.cons rv .nil), hT⟩
theorem turn_Z {P : Program} {w : World} {K : PySem.W.Frag} {elts : List Expr} {kk : Nat} {tpos : Pos} {S1 S2 : Src} {z TI TO i1 i2 : Addr} (D : ZipSep2 z TI TO i1 i2 (i1 :: S1.fp) (i2 :: S2.fp)) (n1 : i1 ∉ S1.fp) (n2 : i2 ∉ S2.fp) :
    Turn P w K (.Tuple elts kk tpos) (ItZ K S1 S2) [z, TI, TO, i1, i2] z (fun i h => IsZip h z TI TO .none ∧ IsTupOf2 h TI (.ref i1) (.ref i2) ∧ (∃ a1 a2, IsTupOf2 h TO a1 a2) ∧ S1.tn i1 i h ∧ S2.tn i2 i h) where
  mem := by simp
  obj := fun i h st c hc => by
    obtain ⟨hz, hTI, ⟨x, y, hTO⟩, t1, t2⟩ := st
    have e' : c = z ∨ c = TI ∨ c = TO ∨ c = i1 ∨ c = i2 := by simpa using hc
    rcases e' with q | q | q | q | q
    · rw [q]; exact ⟨_, hz, fun v q => nomatch q⟩
    · rw [q]; exact ⟨_, hTI, fun v q => nomatch q⟩
    · rw [q]; exact ⟨_, hTO, fun v q => nomatch q⟩
    · rw [q]; exact Src.tn_obj t1
    · rw [q]; exact Src.tn_obj t2
  keep := fun i h h' st k => by
    obtain ⟨hz, hTI, ⟨x, y, hTO⟩, h1, h2⟩ := st
    exact ⟨k z (by simp) _ hz, k TI (by simp) _ hTI, ⟨x, y, k TO (by simp) _ hTO⟩, Src.tn_at h1 fun o q => k i1 (by simp) o q, Src.tn_at h2 fun o q => k i2 (by simp) o q⟩
  item := by
    intro X hP hw hK hc i pins s σ H E I hf st hg
    subst hP hw hK
    obtain ⟨hz, hTI, hTO, t1, t2⟩ := st
    obtain ⟨xs, ys, x, y, q1, q2, hx, hy⟩ := hg
    obtain ⟨P1, St1, D1, a1, b1, c1⟩ := Src.draws I (I.ok.hd hc) q1 n1
    obtain ⟨P2, St2, D2, a2, b2, c2⟩ := Src.draws I (I.ok.hd hc) q2 n2
    have G := GoesN.zip2 (elts := elts) (x1 := kk) (pos := tpos) D D1 D2
    have hl1 := (List.getElem?_eq_some_iff.mp hx).1
    have hl2 := (List.getElem?_eq_some_iff.mp hy).1
    refine G.goes i s _ _ (by omega) ⟨hz, hTI, hTO, a1 i t1, a2 i t2⟩ fun v h' tk Y st' hk htk => ?_
    obtain ⟨T, u1, u2, rfl, hT, p1, p2, hTup⟩ := Y
    obtain ⟨z', TI', TO', s1, s2⟩ := st'
    obtain ⟨x', e1, r1⟩ := c1 i u1 p1
    obtain ⟨y', e2, r2⟩ := c2 i u2 p2
    rw [hx] at e1; cases e1
    rw [hy] at e2; cases e2
    have I1 : Inv X pins σ (upd H T (.tup [x, y])) { s with heap := h', toks := tk } :=
      I.turnedNew (ch := [z, TI, TO, i1, i2]) (fun c o hb q => hk c o (fun q' => hb (by simp at q' ⊢; rcases q' with q' | q' | q' | q' <;> simp [q'])) q) hf hT (tupObj r1 r2 hTup)
    refine ⟨.ref T, _, I1, rfl, ⟨T, x, y, rfl, I.hok.fresh hT, rfl, fun l hl => by rw [Src.inj I hl q1]; exact hx, fun l hl => by rw [Src.inj I hl q2]; exact hy⟩, ⟨z', TI', TO', b1 _ _ s1, b2 _ _ s2⟩, fun c hcm => ?_⟩
    have hlt : c < s.heap.objs.size := by
      have e' : c = z ∨ c = TI ∨ c = TO ∨ c = i1 ∨ c = i2 := by simpa using hcm
      rcases e' with q | q | q | q | q
      · rw [q]; exact Heap.lt_size hz
      · rw [q]; exact Heap.lt_size hTI
      · rw [q]; obtain ⟨_, _, hTO⟩ := hTO; exact Heap.lt_size hTO
      · rw [q]; obtain ⟨_, e1, _⟩ := Src.tn_obj t1; exact Heap.lt_size e1
      · rw [q]; obtain ⟨_, e1, _⟩ := Src.tn_obj t2; exact Heap.lt_size e1
    rw [upd_ne (fun z => by rw [z] at hlt; exact absurd (Nat.lt_of_lt_of_le hlt hT) (Nat.lt_irrefl _))]
    exact (hf c hcm).1
  done := by
    intro X hP hw hK hc i pins s σ H E I hf st hg
    subst hP hw hK
    obtain ⟨hz, hTI, hTO, t1, t2⟩ := st
    obtain ⟨xs, ys, q1, q2, hi⟩ := hg
    subst hi
    obtain ⟨P1, St1, D1, a1, b1, c1⟩ := Src.draws I (I.ok.hd hc) q1 n1
    obtain ⟨P2, St2, D2, a2, b2, c2⟩ := Src.draws I (I.ok.hd hc) q2 n2
    have G := GoesN.zip2 (elts := elts) (x1 := kk) (pos := tpos) D D1 D2
    refine wpAny_mono (G.stops s (fun s1 => Inv X pins σ H s1) E ⟨hz, hTI, hTO, a1 _ t1, a2 _ t2⟩ fun h' tk hk htk => I.turnedL (ch := [z, TI, TO, i1, i2]) (fun c o hb q => hk c o (fun q' => hb (by simp at q' ⊢; rcases q' with q' | q' | q' | q' <;> simp [q'])) q) hf) (fun r s1 h => h) fun _ _ e => e
  self := fun A i s Q E st h => wpAny_pyIter_zip st.1 h
theorem turn_E {P : Program} {w : World} {K : PySem.W.Frag} {elts : List Expr} {kk : Nat} {tpos : Pos} {S : Src} {e it : Addr} (hei : e ≠ it) (hef : e ∉ S.fp) (n1 : it ∉ S.fp) :
    Turn P w K (.Tuple elts kk tpos) (ItE K S) [e, it] e (fun i h => (∃ old, IsEnum h e it ((i : Nat) : Int) old) ∧ S.tn it i h) where
  mem := by simp
  obj := fun i h st c hc => by
    obtain ⟨⟨old, he⟩, t1⟩ := st
    have e' : c = e ∨ c = it := by simpa using hc
    rcases e' with q | q
    · rw [q]; exact ⟨_, he, fun v q => nomatch q⟩
    · rw [q]; exact Src.tn_obj t1
  keep := fun i h h' st k => by
    obtain ⟨⟨old, he⟩, h1⟩ := st
    exact ⟨⟨old, k e (by simp) _ he⟩, Src.tn_at h1 fun o q => k it (by simp) o q⟩
  item := by
    intro X hP hw hK hc i pins s σ H E I hf st hg
    subst hP hw hK
    obtain ⟨⟨old, he⟩, t1⟩ := st
    obtain ⟨xs, x, q1, hx⟩ := hg
    obtain ⟨P1, St1, D1, a1, b1, c1⟩ := Src.draws I (I.ok.hd hc) q1 n1
    have G := GoesN.enumFrom (elts := elts) (x1 := kk) (pos := tpos) 0 D1 e hei (by simp [hei, hef]) (by simp)
    have hl1 := (List.getElem?_eq_some_iff.mp hx).1
    refine G.goes i s _ _ (by omega) ⟨⟨old, by rw [Int.zero_add]; exact he⟩, a1 i t1⟩ fun v h' tk Y st' hk htk => ?_
    obtain ⟨T, t, u1, rfl, hT, p1, hTup⟩ := Y
    obtain ⟨⟨old', e'⟩, s1⟩ := st'
    obtain ⟨x', e1, r1⟩ := c1 i u1 p1
    rw [hx] at e1; cases e1
    rw [Int.zero_add] at hTup e'
    have I1 : Inv X pins σ (upd H T (.tup [.int i, x])) { s with heap := h', toks := tk } :=
      I.turnedNew (ch := [e, it]) (fun c o hb q => hk c o hb q) hf hT (tupObj ⟨t, rfl⟩ r1 hTup)
    refine ⟨.ref T, _, I1, rfl, ⟨T, x, rfl, I.hok.fresh hT, rfl, fun l hl => by rw [Src.inj I hl q1]; exact hx⟩, ⟨⟨old', e'⟩, b1 _ _ s1⟩, fun c hcm => ?_⟩
    have hlt : c < s.heap.objs.size := by
      have e' : c = e ∨ c = it := by simpa using hcm
      rcases e' with q | q
      · rw [q]; exact Heap.lt_size he
      · rw [q]; obtain ⟨_, e1, _⟩ := Src.tn_obj t1; exact Heap.lt_size e1
    rw [upd_ne (fun z => by rw [z] at hlt; exact absurd (Nat.lt_of_lt_of_le hlt hT) (Nat.lt_irrefl _))]
    exact (hf c hcm).1
  done := by
    intro X hP hw hK hc i pins s σ H E I hf st hg
    subst hP hw hK
    obtain ⟨⟨old, he⟩, t1⟩ := st
    obtain ⟨xs, q1, hi⟩ := hg
    subst hi
    obtain ⟨P1, St1, D1, a1, b1, c1⟩ := Src.draws I (I.ok.hd hc) q1 n1
    have G := GoesN.enumFrom (elts := elts) (x1 := kk) (pos := tpos) 0 D1 e hei (by simp [hei, hef]) (by simp)
    refine wpAny_mono (G.stops s (fun s1 => Inv X pins σ H s1) E ⟨⟨old, by rw [Int.zero_add]; exact he⟩, a1 _ t1⟩ fun h' tk hk htk => I.turnedL (ch := [e, it]) (fun c o hb q => hk c o hb q) hf) (fun r s1 h => h) fun _ _ e => e
  self := fun A i s Q E st h => let ⟨⟨_, he⟩, _⟩ := st; wpAny_pyIter_enum he h
end GW

namespace PySem
theorem gw_meets_enum {v : Value} {o : Obj} {H : Heap → Prop} (B : Begins v o H) :
    Meets (Builtin.«enumerate.__new__» ⟨[.type "enumerate", v], []⟩) (fun _ R s => H s.heap ∧
      R (.ok (.ret (.ref (s.heap.push o).objs.size))) { s with heap := (s.heap.push o).push { cls := .type "enumerate", data := .fields #[.none, .bool false, .ref s.heap.objs.size, rawInt 0, .none, .none] } }) :=
  .of_wp fun prog w A R s h => by
    obtain ⟨hp, g, d, tk, os⟩ := s; obtain ⟨h1, h⟩ := h
    have hsub := sub_enumerate
    have q1 : ∀ {A' : Around} {E : Value → Shared → Prop} {Q : Value → Shared → Prop}, Q (.ref hp.objs.size) ⟨hp.push o, g, d, tk, os⟩ → wpAny (model prog w) A' (pyIter v) Q E ⟨hp, g, d, tk, os⟩ :=
      fun q => B.iter prog w _ _ ⟨hp, g, d, tk, os⟩ _ h1 q
    wp_walk using q1
    refine wpAny_stack_any fun st => wpAny_pure ?_
    split
    · rename_i c _ _ _ _ _
      cases (c == Value.type "enumerate")
      · wp_walk using q1
        exact ⟨_, rfl, h⟩
      · wp_walk using q1
        exact ⟨_, rfl, h⟩
    · wp_walk using q1
      exact ⟨_, rfl, h⟩
theorem gw_enum {prog : Program} {w : World} {A : Around} {E : Value → Shared → Prop} {s : Shared} {v : Value} {o : Obj} {H : Heap → Prop} {Q : Value → Shared → Prop} (B : Begins v o H) (h1 : H s.heap)
    (h : ∀ h', IsEnum h' (s.heap.objs.size + 1) s.heap.objs.size 0 .none → h'.get? s.heap.objs.size = some o → h'.objs.size = s.heap.objs.size + 2 →
      (∀ b o, s.heap.get? b = some o → h'.get? b = some o) → Q (.ref (s.heap.objs.size + 1)) { s with heap := h' }) :
    wpAny (model prog w) A (call (.type "enumerate") [v]) Q E s := by
  refine callType_new F.called_enumerate (by decide) (F.typeCall_enumerate_1 _) (F.newCall_enumerate_1 _) (fun obj => F.args_object_init_2 obj _) F.entry_enumerate_new
    (gw_meets_enum B) ⟨h1, ?_⟩
  have hz : (s.heap.push o).objs.size = s.heap.objs.size + 1 := Heap.size_push ..
  show _ ∧ _
  rw [hz]
  have he : IsEnum ((s.heap.push o).push { cls := .type "enumerate", data := .fields #[.none, .bool false, .ref s.heap.objs.size, rawInt 0, .none, .none] }) (s.heap.objs.size + 1) s.heap.objs.size 0 .none := by
    have := Heap.get?_push_size (s.heap.push o) (o := { cls := .type "enumerate", data := .fields #[.none, .bool false, .ref s.heap.objs.size, rawInt 0, .none, .none] }) rfl
    rw [hz] at this; exact this
  refine ⟨⟨_, he, rfl⟩, h _ he (Heap.get?_push_of_some _ (Heap.get?_push_size _ B.free)) (by rw [Heap.size_push, hz]) fun b o x => Heap.get?_push_of_some _ (Heap.get?_push_of_some _ x)⟩
end PySem
namespace GW
open PySem L2 PyProof.Rows
def Src.v : Src → V
  | .lst a => .ref a
  | .tup a => .ref a
  | .txt x _ => .str x
theorem Src.begins {X : Cx} {pins : List (Addr × Obj)} {σ : L2.St} {H : Hp} {s : Shared} {S : Src} {xs : List V} (I : Inv X pins σ H s) (h : S.its X.K H xs) : ∃ Hh, Begins S.val S.obj Hh ∧ Hh s.heap ∧ ∀ b ∈ S.fp, b < s.heap.objs.size := by
  cases S with
  | lst a =>
    obtain ⟨its, rv, p, _⟩ := I.list h
    exact ⟨_, begins_list a its.toArray, p.isList, fun b hb => by simp [Src.fp] at hb; rw [hb]; exact p.lt⟩
  | tup a =>
    obtain ⟨its, rv, p, _⟩ := I.tuple h
    exact ⟨_, begins_tuple a its.toArray, p, fun b hb => by simp [Src.fp] at hb; rw [hb]; obtain ⟨_, e, _⟩ := id p; exact Heap.lt_size e⟩
  | txt x t => exact ⟨_, begins_text x t, trivial, fun b hb => by simp [Src.fp] at hb⟩
/-- the same with its token -/
theorem Src.tok {S : Src} {u : Value} (r : RelV S.v u) : ∃ S' : Src, S'.val = u ∧ (∀ K, ItE K S' = ItE K S) ∧ (∀ K S2, ItZ K S' S2 = ItZ K S S2) ∧ (∀ K S2, ItZ K S2 S' = ItZ K S2 S) ∧ ∀ K H xs, S.its K H xs → S'.its K H xs := by
  cases S with
  | lst a => cases r; exact ⟨.lst a, rfl, fun _ => rfl, fun _ _ => rfl, fun _ _ => rfl, fun _ _ _ h => h⟩
  | tup a => cases r; exact ⟨.tup a, rfl, fun _ => rfl, fun _ _ => rfl, fun _ _ => rfl, fun _ _ _ h => h⟩
  | txt x t => obtain ⟨t', rfl⟩ := r; exact ⟨.txt x t', rfl, fun _ => rfl, fun _ _ => rfl, fun _ _ => rfl, fun _ _ _ h => h⟩
def iZ (K : PySem.W.Frag) (ta : TA) : TI := fun σ H R => ta σ H fun vs H1 => ∃ (S1 S2 : Src) (xs ys : List V), vs = [S1.v, S2.v] ∧ S1.its K H1 xs ∧ S2.its K H1 ys ∧ R (ItZ K S1 S2) H1
def iE (K : PySem.W.Frag) (ta : TA) : TI := fun σ H R => ta σ H fun vs H1 => ∃ (S : Src) (xs : List V), vs = [S.v] ∧ S.its K H1 xs ∧ R (ItE K S) H1
theorem notIn_lt {N j : Nat} {fp : List Addr} (h : ∀ b ∈ fp, b < N) : N + j ∉ fp := fun hm => by
  have q : (N + j : Nat) < N := h _ hm
  omega
theorem pi_Z {X : Cx} {e e2 : Expr} {ta : TA} {p pos tpos : Pos} {elts : List Expr} {kk : Nat} (hg : Gl X "zip") (hm : X.mg "zip" = none) (ha : PA X [e, e2] ta)
    (hs : starEach [e, e2] X.env = (false, eval e X.env) :: starEach [e2] X.env := by rfl) (hpl : (backTo pos (starEach [e2] X.env)).any (·.1) = false := by rfl) :
    PI X (.Tuple elts kk tpos) (.Call (.Name "zip" p) [e, e2] [] pos) (iZ X.K ta) := by
  refine ⟨fun pins s σ H R I h => ?_⟩
  refine Call_ (ld_blt I hg hm PyProof.Rows.boot_zip (PyProof.Rows.callWith_type1 (thn (ha.run pos pins s σ H _ I h) fun us s1 ⟨vs, H1, I1, r1, q1⟩ => ?_) hs hpl))
  obtain ⟨S1, S2, xs, ys, ex, h1, h2, q⟩ := q1
  subst ex
  cases r1 with
  | cons r rr =>
    cases rr with
    | cons r' rr =>
      cases rr
      obtain ⟨T1, rfl, _, z1, _, w1⟩ := Src.tok r
      obtain ⟨T2, rfl, _, _, z2, w2⟩ := Src.tok r'
      rw [← z1, ← z2] at q
      have h1 := w1 _ _ _ h1
      have h2 := w2 _ _ _ h2
      obtain ⟨A1, B1, a1, l1⟩ := Src.begins I1 h1
      obtain ⟨A2, B2, a2, l2⟩ := Src.begins I1 h2
      refine zip_begins2 B1 B2 a1 a2 fun h' hz hTI hTO g1 g2 hsz hk => wpAny_pyIter_zip hz ?_
      have I2 : Inv X pins σ H1 { s1 with heap := h' } := I1.kept (t' := s1.toks) hk
      refine ⟨s1.heap.objs.size + 4, [s1.heap.objs.size + 4, s1.heap.objs.size + 2, s1.heap.objs.size + 3, s1.heap.objs.size, s1.heap.objs.size + 1], _, _, H1, rfl, I2, turn_Z (zip_sep2 l1 l2) (notIn_lt (j := 0) l1) (notIn_lt (j := 1) l2), ⟨hz, hTI, ⟨_, _, hTO⟩, Src.tn0 g1, Src.tn0 g2⟩, fun c hcm => ?_, q⟩
      have e' : c = s1.heap.objs.size + 4 ∨ c = s1.heap.objs.size + 2 ∨ c = s1.heap.objs.size + 3 ∨ c = s1.heap.objs.size ∨ c = s1.heap.objs.size + 1 := by simpa using hcm
      have hle : s1.heap.objs.size ≤ c := by
        rcases e' with z | z | z | z | z
        · rw [z]; exact Nat.le_add_right _ _
        · rw [z]; exact Nat.le_add_right _ _
        · rw [z]; exact Nat.le_add_right _ _
        · rw [z]; exact Nat.le_refl _
        · rw [z]; exact Nat.le_add_right _ _
      exact I1.fpOk hle (I1.hok.fresh hle)
theorem pi_E {X : Cx} {e : Expr} {ta : TA} {p pos tpos : Pos} {elts : List Expr} {kk : Nat} (hg : Gl X "enumerate") (hm : X.mg "enumerate" = none) (ha : PA X [e] ta) (hs : starEach [e] X.env = [(false, eval e X.env)] := by rfl) :
    PI X (.Tuple elts kk tpos) (.Call (.Name "enumerate" p) [e] [] pos) (iE X.K ta) := by
  refine ⟨fun pins s σ H R I h => ?_⟩
  refine Call_ (ld_blt I hg hm boot_enumerate (PyProof.Rows.callWith_type1 (thn (ha.run pos pins s σ H _ I h) fun us s1 ⟨vs, H1, I1, r1, q1⟩ => ?_) hs rfl))
  obtain ⟨S1, xs, ex, h1, q⟩ := q1
  subst ex
  cases r1 with
  | cons r rr =>
    cases rr
    obtain ⟨T1, rfl, z1, _, _, w1⟩ := Src.tok r
    rw [← z1] at q
    have h1 := w1 _ _ _ h1
    obtain ⟨A1, B1, a1, l1⟩ := Src.begins I1 h1
    refine gw_enum B1 a1 fun h' he g1 hsz hk => wpAny_pyIter_enum he ?_
    have I2 : Inv X pins σ H1 { s1 with heap := h' } := I1.kept (t' := s1.toks) hk
    refine ⟨s1.heap.objs.size + 1, [s1.heap.objs.size + 1, s1.heap.objs.size], _, _, H1, rfl, I2, turn_E (e := s1.heap.objs.size + 1) (it := s1.heap.objs.size) (Nat.succ_ne_self _) (notIn_lt (j := 1) l1) (notIn_lt (j := 0) l1), ⟨⟨.none, he⟩, Src.tn0 g1⟩, fun b hb => ?_, q⟩
    have e' : b = s1.heap.objs.size + 1 ∨ b = s1.heap.objs.size := by simpa using hb
    have hle : s1.heap.objs.size ≤ b := by
      rcases e' with z | z
      · rw [z]; exact Nat.le_add_right _ _
      · rw [z]; exact Nat.le_refl _
    exact I1.fpOk hle (I1.hok.fresh hle)
/-! ### as mirrors -/
def itemsD : D → Option (List D)
  | .lst ds => some ds
  | .tup ds => some ds
  | .str x => some (signsD x)
  | _ => none
theorem srcD {K : PySem.W.Frag} {F H : Hp} {v : V} {d : D} {A : AS} {as : List D} (fh : Same F H) (r : Rp K F H 0 v d A) (e : itemsD d = some as) :
    ∃ S : Src, v = S.v ∧ ∀ F' H', Later F H F' H' → ∃ vs, S.its K H' vs ∧ vs.length = as.length ∧ ∀ (i : Nat) v d, vs[i]? = some v → as[i]? = some d → Rp K F' H' 0 v d (fun _ => False) := by
  cases r with
  | lst h l c => cases e; exact ⟨.lst _, rfl, fun F' H' L => ⟨_, sqL_mono h (L.ff.trans L.fh), l, fun i v d a b => (Rp.z (c i v d a b)).mono L.ff L.ht fun _ _ h => h.elim⟩⟩
  | tup h l c => cases e; exact ⟨.tup _, rfl, fun F' H' L => ⟨_, sqT_mono h L.ht, l, fun i v d a b => (Rp.z (c i v d a b)).mono L.ff L.ht fun _ _ h => h.elim⟩⟩
  | str =>
    rename_i x
    cases e
    refine ⟨.txt x 0, rfl, fun F' H' L => ⟨_, rfl, by unfold signsD; simp, fun i v d a b => ?_⟩⟩
    unfold signsD at b
    rw [List.getElem?_map] at a b
    cases hc : x.cps.toList[i]? with
    | none => rw [hc] at a; cases a
    | some c => rw [hc] at a b; cases a; cases b; exact .str
  | _ => cases e
def oEnum : List D → Option (List D)
  | [d] => (itemsD d).map fun as => as.mapIdx fun i x => .tup [.int (i : Nat), x]
  | _ => none
def mEnum (ms : Mo (List D)) : Mo (List D) := mb ms fun ds => ret (oEnum ds)
def oZip2 : List D → Option (List D)
  | [d, d'] => match itemsD d, itemsD d' with
    | some xs, some ys => some (zipD xs ys)
    | _, _ => none
  | _ => none
def mZip2 (ms : Mo (List D)) : Mo (List D) := mb ms fun ds => ret (oZip2 ds)
theorem zipD_len : ∀ {xs ys : List D}, (zipD xs ys).length = min xs.length ys.length
  | [], _ => by simp [zipD]
  | _ :: _, [] => by simp [zipD]
  | a :: as, b :: bs => by simp [zipD, zipD_len (xs := as) (ys := bs)]
section
variable {X : Cx} {C : Ctx} {wx : WX}
theorem vi_enum {ea : Expr} {elts : List Expr} {kk : Nat} {p pos tpos : Pos} {ms : Mo (List D)} (hm : X.mg "enumerate" = none) (ha : PA X [ea] (WA C wx .fz ms)) (hg : Gl X "enumerate" := by rfl)
    (hs : starEach [ea] X.env = [(false, eval ea X.env)] := by rfl) (hK : X.K = C.K := by rfl) :
    PI X (.Tuple elts kk tpos) (.Call (.Name "enumerate" p) [ea] [] pos) (WI C wx (mEnum ms)) := (pi_E hg hm ha hs).wk fun σ H Q w => by
  obtain ⟨F, B, n, ds, S, h⟩ := w
  refine ⟨F, B, n, ds, S, (h.bind fun F1 H1 F2 H2 v d G r => r).mono fun vs H1 ⟨F1, n1, as, G1, S1, r1, h1⟩ => ?_⟩
  obtain ⟨is, e, q⟩ := h1.retE
  rw [hK]
  unfold oEnum at e
  split at e
  · rename_i d
    obtain ⟨v, rfl, r⟩ := r1.one
    cases hi : itemsD d with
    | none => rw [hi] at e; cases e
    | some as =>
      rw [hi] at e
      cases e
      obtain ⟨Sr, rfl, hs⟩ := srcD S1.fh r hi
      obtain ⟨vs0, hv0, _⟩ := hs F1 H1 (Later.refl S1.fh)
      refine ⟨Sr, vs0, rfl, hv0, q _ F1 H1 (GoC.refl S1.fh) S1 fun F' H' L i => ?_⟩
      obtain ⟨vs, hv, hl, hc⟩ := hs F' H' L
      refine ⟨fun d hd => ?_, fun hn => ⟨vs, hv, by have e := List.length_mapIdx (l := as) (f := fun i x => D.tup [.int (i : Nat), x]); rw [hl]; exact e.symm.trans hn⟩⟩
      rw [List.getElem?_mapIdx] at hd
      cases ha : as[i]? with
      | none => rw [ha] at hd; cases hd
      | some x =>
        rw [ha] at hd
        cases hd
        obtain ⟨w1, hw1⟩ := get_of hl ha
        refine ⟨⟨vs, w1, hv, hw1⟩, fun x2 H'' y2 => ?_⟩
        obtain ⟨T, z1, e1, e2, e3, e4⟩ := y2
        subst e1 e3
        have e4 := e4 vs hv
        rw [hw1] at e4
        cases e4
        have hu : ∀ a o, H' a = some o → upd H' T (.tup [.int i, w1]) a = some o := fun a o e => by rw [upd_ne (ne_of_none e e2)]; exact e
        exact ⟨.inr ⟨T, _, e2, rfl⟩, .tup (.inl (.inl upd_same)) rfl (RpL.cons (A := fun _ => False) .int (RpL.cons (A := fun _ => False) ((hc i w1 x hw1 ha).mono (Same.refl _) (fun a o e h => hu a o e) fun _ _ h => h.elim) RpL.nil)).2⟩
  · cases e
theorem vi_zip2 {ea eb : Expr} {elts : List Expr} {kk : Nat} {p pos tpos : Pos} {ms : Mo (List D)} (hm : X.mg "zip" = none) (ha : PA X [ea, eb] (WA C wx .fz ms)) (hg : Gl X "zip" := by rfl)
    (hs : starEach [ea, eb] X.env = (false, eval ea X.env) :: starEach [eb] X.env := by rfl) (hpl : (backTo pos (starEach [eb] X.env)).any (·.1) = false := by rfl) (hK : X.K = C.K := by rfl) :
    PI X (.Tuple elts kk tpos) (.Call (.Name "zip" p) [ea, eb] [] pos) (WI C wx (mZip2 ms)) := (pi_Z hg hm ha hs hpl).wk fun σ H Q w => by
  obtain ⟨F, B, n, ds, S, h⟩ := w
  refine ⟨F, B, n, ds, S, (h.bind fun F1 H1 F2 H2 v d G r => r).mono fun vs H1 ⟨F1, n1, as, G1, S1, r1, h1⟩ => ?_⟩
  obtain ⟨is, e, q⟩ := h1.retE
  rw [hK]
  unfold oZip2 at e
  split at e
  · rename_i d d'
    obtain ⟨v, v', rfl, r, r'⟩ := r1.two
    split at e
    · rename_i xs ys hx hy
      cases e
      obtain ⟨S2, rfl, hs2⟩ := srcD S1.fh r hx
      obtain ⟨S3, rfl, hs3⟩ := srcD S1.fh r' hy
      obtain ⟨vs0, hv0, _⟩ := hs2 F1 H1 (Later.refl S1.fh)
      obtain ⟨ws0, hw0, _⟩ := hs3 F1 H1 (Later.refl S1.fh)
      refine ⟨S2, S3, vs0, ws0, rfl, hv0, hw0, q _ F1 H1 (GoC.refl S1.fh) S1 fun F' H' L i => ?_⟩
      obtain ⟨vs, hv, hl, hc⟩ := hs2 F' H' L
      obtain ⟨ws, hw, hl2, hc2⟩ := hs3 F' H' L
      refine ⟨fun d hd => ?_, fun hn => ⟨vs, ws, hv, hw, by rw [hl, hl2, ← hn, zipD_len]⟩⟩
      obtain ⟨x, y, g1, g2, rfl⟩ := zipD_get hd
      obtain ⟨w1, hw1⟩ := get_of hl g1
      obtain ⟨w2, hw2⟩ := get_of hl2 g2
      refine ⟨⟨vs, ws, w1, w2, hv, hw, hw1, hw2⟩, fun x2 H'' y2 => ?_⟩
      obtain ⟨T, z1, z2, e1, e2, e3, e4, e5⟩ := y2
      subst e1 e3
      have e4 := e4 vs hv
      have e5 := e5 ws hw
      rw [hw1] at e4
      rw [hw2] at e5
      cases e4; cases e5
      have hu : ∀ a o, H' a = some o → upd H' T (.tup [w1, w2]) a = some o := fun a o e => by rw [upd_ne (ne_of_none e e2)]; exact e
      exact ⟨.inr ⟨T, _, e2, rfl⟩, .tup (.inl (.inl upd_same)) rfl (RpL.cons (A := fun _ => False) ((hc i w1 x hw1 g1).mono (Same.refl _) (fun a o e h => hu a o e) fun _ _ h => h.elim) (RpL.cons (A := fun _ => False) ((hc2 i w2 y hw2 g2).mono (Same.refl _) (fun a o e h => hu a o e) fun _ _ h => h.elim) RpL.nil)).2⟩
    · cases e
  · cases e
end
end GW

/-! places of one's own, and what is changed there -/
namespace GW
open PySem L2 PyProof.Rows
/-- a place in a slot's thing -/
inductive Pth where
  | nil | ix (j : Nat) | fd (f : Str)
def putD (f : Str) (y : D) : List (Str × D) → List (Str × D)
  | [] => [(f, y)]
  | p :: r => if p.1 = f then (f, y) :: r else p :: putD f y r
def getP : Pth → D → Option D
  | .nil, d => some d
  | .ix j, .lst ds => ds[j]?
  | .fd f, .obj _ fs => fs.lookup f
  | _, _ => none
def setP : Pth → D → D → D
  | .nil, _, e => e
  | .ix j, .lst ds, e => .lst (ds.set j e)
  | .fd f, .obj C fs, e => .obj C (putD f e fs)
  | _, d, _ => d
def Pth.len : Pth → Nat
  | .nil => 0
  | _ => 1
def isCon : D → Bool
  | .lst _ => true
  | .dct _ => true
  | .obj _ _ => true
  | _ => false
/-- where it stands -/
def PthV (H : Hp) : Pth → V → Addr → Prop
  | .nil, v, p => v = .ref p
  | .ix j, v, p => ∃ q vs, v = .ref q ∧ H q = some (.lst vs) ∧ vs[j]? = some (.ref p)
  | .fd f, v, p => ∃ q C dx fs, v = .ref q ∧ H q = some (.ins C dx fs) ∧ fs.lookup f = some (.ref p)
theorem PthV.inj {H : Hp} {π : Pth} {v : V} {p p' : Addr} (h : PthV H π v p) (h' : PthV H π v p') : p = p' := by
  cases π with
  | nil =>
    have a : v = .ref p := h
    have b : v = .ref p' := h'
    rw [a] at b; cases b; rfl
  | ix j =>
    obtain ⟨q, vs, e1, e2, e3⟩ := h
    obtain ⟨q', vs', e1', e2', e3'⟩ := h'
    rw [e1] at e1'; cases e1'
    rw [e2] at e2'; cases e2'
    rw [e3] at e3'; cases e3'; rfl
  | fd f =>
    obtain ⟨q, C, dx, fs, e1, e2, e3⟩ := h
    obtain ⟨q', C', dx', fs', e1', e2', e3'⟩ := h'
    rw [e1] at e1'; cases e1'
    rw [e2] at e2'; cases e2'
    rw [e3] at e3'; cases e3'; rfl
theorem putD_keys {f : Str} {y : D} : ∀ {fs : List (Str × D)} {d : D}, fs.lookup f = some d → (putD f y fs).map (·.1) = fs.map (·.1)
  | [], d, h => by cases h
  | p :: r, d, h => by
    obtain ⟨k, z⟩ := p
    unfold putD
    by_cases hk : k = f
    · subst hk; simp
    · have hb : (f == k) = false := by simpa using Ne.symm hk
      rw [List.lookup_cons, hb] at h
      simp only [if_neg hk, List.map_cons]
      rw [putD_keys h]
theorem putD_get {f : Str} {y : D} : ∀ {fs : List (Str × D)} {d : D}, fs.lookup f = some d → ∃ j, (∀ {vs : List (Str × V)}, vs.map (·.1) = fs.map (·.1) → vs.lookup f = (vs.map (·.2))[j]?) ∧ (fs.map (·.2))[j]? = some d ∧ (putD f y fs).map (·.2) = (fs.map (·.2)).set j y
  | [], d, h => by cases h
  | p :: r, d, h => by
    obtain ⟨k, z⟩ := p
    unfold putD
    by_cases hk : k = f
    · subst hk
      rw [List.lookup_cons_self] at h
      cases h
      refine ⟨0, fun {vs} e => ?_, by simp, by simp⟩
      cases vs with
      | nil => cases e
      | cons q s =>
        obtain ⟨qk, qv⟩ := q
        simp only [List.map_cons, List.cons.injEq] at e
        rw [e.1, List.lookup_cons_self]; rfl
    · have hb : (f == k) = false := by simpa using Ne.symm hk
      rw [List.lookup_cons, hb] at h
      obtain ⟨j, h1, h2, h3⟩ := putD_get (y := y) h
      refine ⟨j + 1, fun {vs} e => ?_, by simpa using h2, by simp only [if_neg hk, List.map_cons, List.set_cons_succ]; rw [h3]⟩
      cases vs with
      | nil => cases e
      | cons q s =>
        obtain ⟨qk, qv⟩ := q
        simp only [List.map_cons, List.cons.injEq] at e
        rw [List.lookup_cons, e.1, hb]
        simpa using h1 e.2
section
variable {C : Ctx}
theorem Rp.con {K : PySem.W.Frag} {F H : Hp} {k : Nat} {v : V} {e : D} {A : AS} (r : Rp K F H (k + 1) v e A) (h : isCon e = true) : ∃ p o, v = .ref p ∧ A p ∧ H p = some o ∧ Mk o = true := by
  cases r with
  | lstO As h1 hA => exact ⟨_, _, rfl, hA, h1, rfl⟩
  | dctO h1 hA => exact ⟨_, _, rfl, hA, h1, rfl⟩
  | objO As h1 hA => exact ⟨_, _, rfl, hA, h1, rfl⟩
  | _ => cases h
/-- the thing of a slot is exchanged, its heap's one object p with it -/
theorem Sim.repl {F H : Hp} {B : AS} {σ : L2.St} {n : Int} {ds : DS} {i : Nat} {v : V} {d d' : D} {A' : AS} {p : Addr} {o o' : HO} (S : Sim C F B σ H n ds) (A : Nat → AS) (h1 : ∀ (i : Nat) d, ds[i]? = some (some d) → ∃ v, σ[i]? = some (some v) ∧ Rp C.K F H (C.T i) v d (A i)) (h2 : ∀ i a, A i a → B a ∧ C.q ≠ some a) (h3 : ∀ i j a, A i a → A j a → i = j)
    (hd : ds[i]? = some (some d)) (hv : σ[i]? = some (some v)) (hp : A i p) (hH : H p = some o) (ho : Mk o = true) (ho' : Mk o' = true) (r : Rp C.K F (upd H p o') (C.T i) v d' A') (hA : ∀ a, A' a → A i a ∨ (¬ B a ∧ F a = none ∧ C.q ≠ some a ∧ ∃ o, H a = some o ∧ Mk o = true)) :
    Sim C F (fun a => B a ∨ A' a) σ (upd H p o') n (ds.set i (some d')) := by
  have hpB := h2 i p hp
  have hup : ∀ a u, a ≠ p → H a = some u → upd H p o' a = some u := fun a u hne e => by rw [upd_ne hne]; exact e
  have htt : ∀ a u, H a = some u → Mk u = false → upd H p o' a = some u := fun a u e hm => hup a u (fun z => by rw [z, hH] at e; cases e; rw [ho] at hm; cases hm) e
  have hFp : F p = none := (S.bok p hpB.1).1
  refine ⟨fun a u e => hup a u (fun z => by rw [z, hFp] at e; cases e) (S.fh a u e), fun a ha => ?_, fun q hq => ⟨.inl (S.cell q hq).1, hup q _ (fun z => hpB.2 (z ▸ hq)) (S.cell q hq).2⟩, S.pin, by rw [List.length_set]; exact S.len, ?_⟩
  · by_cases hap : a = p
    · subst hap; exact ⟨hFp, _, upd_same, ho'⟩
    · have : F a = none ∧ ∃ o, H a = some o ∧ Mk o = true := by
        rcases ha with ha | ha
        · exact S.bok a ha
        · rcases hA a ha with z | ⟨_, z1, _, z2⟩
          · exact S.bok a (h2 i a z).1
          · exact ⟨z1, z2⟩
      obtain ⟨z1, u, z2, z3⟩ := this
      exact ⟨z1, u, hup a u hap z2, z3⟩
  · classical
    refine ⟨fun j => if j = i then A' else A j, fun j d2 e => ?_, fun j a ha => ?_, fun j j' a ha ha' => ?_⟩
    · by_cases hj : j = i
      · subst hj
        have hl : j < ds.length := (List.getElem?_eq_some_iff.mp hd).1
        rw [List.getElem?_set_self hl] at e
        cases e
        refine ⟨v, hv, ?_⟩
        simp only [if_true]
        exact r
      · rw [List.getElem?_set_ne (Ne.symm hj)] at e
        obtain ⟨w, e1, r1⟩ := h1 j d2 e
        refine ⟨w, e1, ?_⟩
        simp only [if_neg hj]
        exact r1.mono (Same.refl _) htt fun a u ha e => hup a u (fun z => hj (h3 j i a ha (z ▸ hp))) e
    · by_cases hj : j = i
      · simp only [if_pos hj] at ha
        refine ⟨.inr ha, ?_⟩
        rcases hA a ha with z | ⟨_, _, z, _⟩
        · exact (h2 i a z).2
        · exact z
      · simp only [if_neg hj] at ha
        exact ⟨.inl (h2 j a ha).1, (h2 j a ha).2⟩
    · have cross : ∀ j, j ≠ i → A j a → A' a → False := fun j hj z1 z2 => by
        rcases hA a z2 with z | ⟨z, _⟩
        · exact hj (h3 j i a z1 z)
        · exact z (h2 j a z1).1
      by_cases hj : j = i <;> by_cases hj' : j' = i
      · rw [hj, hj']
      · simp only [if_pos hj] at ha
        simp only [if_neg hj'] at ha'
        exact (cross j' hj' ha' ha).elim
      · simp only [if_neg hj] at ha
        simp only [if_pos hj'] at ha'
        exact (cross j hj ha ha').elim
      · simp only [if_neg hj] at ha
        simp only [if_neg hj'] at ha'
        exact h3 j j' a ha ha'
/-- the node at a place of one's own, what becomes of the state where it is changed -/
structure Node (C : Ctx) (F H : Hp) (B : AS) (σ : L2.St) (n : Int) (ds : DS) (i : Nat) (π : Pth) (d e : D) (k : Nat) (p : Addr) (Ae : AS) : Prop where
  pv : ∃ v, σ[i]? = some (some v) ∧ PthV H π v p
  rep : Rp C.K F H (k + 1) (.ref p) e Ae
  own : ∀ a, Ae a → B a ∧ C.q ≠ some a
  mko : ∃ o, H p = some o ∧ Mk o = true
  pB : B p
  pq : C.q ≠ some p
  keep : ∀ F' H', GoC C.q F H F' H' → ∃ v, σ[i]? = some (some v) ∧ PthV H' π v p
  chg : ∀ (o' : HO) (e' : D) (A' : AS), Mk o' = true → Rp C.K F (upd H p o') (k + 1) (.ref p) e' A' → (∀ a, A' a → Ae a ∨ (¬ B a ∧ F a = none ∧ C.q ≠ some a ∧ ∃ o, H a = some o ∧ Mk o = true)) →
    ∃ B', (∀ a, B' a → B a ∨ A' a) ∧ Sim C F B' σ (upd H p o') n (ds.set i (some (setP π d e')))
theorem list_upd {K : PySem.W.Frag} {F H : Hp} {k : Nat} {q p : Addr} {vs : List V} {as : List D} {As : Nat → AS} {o o' : HO} {j : Nat} {e e' : D} {A' : AS} {R : AS} (h : H q = some (.lst vs)) (l : vs.length = as.length) (c : ∀ (i : Nat) v d, vs[i]? = some v → as[i]? = some d → Rp K F H k v d (As i)) (s : ∀ (i : Nat) a, As i a → R a ∧ a ≠ q) (dj : ∀ (i j : Nat) a, As i a → As j a → i = j)
    (hj : as[j]? = some e) (hvj : vs[j]? = some (.ref p)) (hp : As j p) (hH : H p = some o) (ho : Mk o = true) (r : Rp K F (upd H p o') k (.ref p) e' A') (hA : ∀ a, A' a → As j a ∨ ¬ R a) (hqR : R q) :
    Rp K F (upd H p o') (k + 1) (.ref q) (.lst (as.set j e')) (fun a => R a ∨ A' a) := by
  classical
  have hqp : q ≠ p := fun z => (s j p hp).2 z.symm
  have htt : ∀ a u, H a = some u → Mk u = false → upd H p o' a = some u := fun a u e hm => by
    have : a ≠ p := fun z => by rw [z, hH] at e; cases e; rw [ho] at hm; cases hm
    rw [upd_ne this]; exact e
  refine .lstO (fun i => if i = j then A' else As i) (by rw [upd_ne hqp]; exact h) (.inl hqR) (by rw [List.length_set]; exact l) (fun i v d e1 e2 => ?_) (fun i a ha => ?_) (fun i i' a ha ha' => ?_)
  · by_cases hi : i = j
    · subst hi
      rw [hvj] at e1; cases e1
      rw [List.getElem?_set_self (List.getElem?_eq_some_iff.mp hj).1] at e2
      cases e2
      simp only [if_true]; exact r
    · rw [List.getElem?_set_ne (Ne.symm hi)] at e2
      simp only [if_neg hi]
      exact (c i v d e1 e2).mono (Same.refl _) htt fun a u ha e => by
        have : a ≠ p := fun z => hi (dj i j a ha (z ▸ hp))
        rw [upd_ne this]; exact e
  · by_cases hi : i = j
    · simp only [if_pos hi] at ha
      refine ⟨.inr ha, fun z => ?_⟩
      rcases hA a ha with y | y
      · exact (s j a y).2 z
      · exact y (z ▸ hqR)
    · simp only [if_neg hi] at ha
      exact ⟨.inl (s i a ha).1, (s i a ha).2⟩
  · have cross : ∀ i, i ≠ j → As i a → A' a → False := fun i hi z1 z2 => by
      rcases hA a z2 with y | y
      · exact hi (dj i j a z1 y)
      · exact y (s i a z1).1
    by_cases hi : i = j <;> by_cases hi' : i' = j
    · rw [hi, hi']
    · simp only [if_pos hi] at ha
      simp only [if_neg hi'] at ha'
      exact (cross i' hi' ha' ha).elim
    · simp only [if_neg hi] at ha
      simp only [if_pos hi'] at ha'
      exact (cross i hi ha ha').elim
    · simp only [if_neg hi] at ha
      simp only [if_neg hi'] at ha'
      exact dj i i' a ha ha'
theorem obj_upd {K : PySem.W.Frag} {F H : Hp} {k : Nat} {q p C0 dx : Addr} {fs : List (Str × V)} {fds : List (Str × D)} {As : Nat → AS} {o o' : HO} {f : Str} {e e' : D} {A' : AS} {R : AS} (h : H q = some (.ins C0 dx fs)) (l : fs.map (·.1) = fds.map (·.1)) (c : ∀ (i : Nat) v d, (fs.map (·.2))[i]? = some v → (fds.map (·.2))[i]? = some d → Rp K F H k v d (As i)) (s : ∀ (i : Nat) a, As i a → R a ∧ a ≠ q) (dj : ∀ (i j : Nat) a, As i a → As j a → i = j)
    (hj : fds.lookup f = some e) (hvj : fs.lookup f = some (.ref p)) (hp : ∀ j, (fs.map (·.2))[j]? = some (.ref p) → (fds.map (·.2))[j]? = some e → As j p) (hH : H p = some o) (ho : Mk o = true) (r : Rp K F (upd H p o') k (.ref p) e' A') (hA : ∀ a, A' a → (∃ j, (fs.map (·.2))[j]? = some (.ref p) ∧ (fds.map (·.2))[j]? = some e ∧ As j a) ∨ ¬ R a) (hqR : R q) :
    Rp K F (upd H p o') (k + 1) (.ref q) (.obj C0 (putD f e' fds)) (fun a => R a ∨ A' a) := by
  classical
  obtain ⟨j, g1, g2, g3⟩ := putD_get (y := e') hj
  have gv : (fs.map (·.2))[j]? = some (.ref p) := by rw [← g1 l]; exact hvj
  have hpj := hp j gv g2
  have hAj : ∀ a, A' a → As j a ∨ ¬ R a := fun a ha => by
    rcases hA a ha with ⟨j', y1, y2, y3⟩ | y
    · have := dj j j' p hpj (hp j' y1 y2)
      subst this; exact .inl y3
    · exact .inr y
  have hqp : q ≠ p := fun z => (s j p hpj).2 z.symm
  have htt : ∀ a u, H a = some u → Mk u = false → upd H p o' a = some u := fun a u e hm => by
    have : a ≠ p := fun z => by rw [z, hH] at e; cases e; rw [ho] at hm; cases hm
    rw [upd_ne this]; exact e
  refine .objO (fun i => if i = j then A' else As i) (by rw [upd_ne hqp]; exact h) (.inl hqR) (by rw [putD_keys hj]; exact l) (fun i v d e1 e2 => ?_) (fun i a ha => ?_) (fun i i' a ha ha' => ?_)
  · rw [g3] at e2
    by_cases hi : i = j
    · subst hi
      rw [gv] at e1; cases e1
      rw [List.getElem?_set_self (List.getElem?_eq_some_iff.mp g2).1] at e2
      cases e2
      simp only [if_true]; exact r
    · rw [List.getElem?_set_ne (Ne.symm hi)] at e2
      simp only [if_neg hi]
      exact (c i v d e1 e2).mono (Same.refl _) htt fun a u ha e => by
        have : a ≠ p := fun z => hi (dj i j a ha (z ▸ hpj))
        rw [upd_ne this]; exact e
  · by_cases hi : i = j
    · simp only [if_pos hi] at ha
      refine ⟨.inr ha, fun z => ?_⟩
      rcases hAj a ha with y | y
      · exact (s j a y).2 z
      · exact y (z ▸ hqR)
    · simp only [if_neg hi] at ha
      exact ⟨.inl (s i a ha).1, (s i a ha).2⟩
  · have cross : ∀ i, i ≠ j → As i a → A' a → False := fun i hi z1 z2 => by
      rcases hAj a z2 with y | y
      · exact hi (dj i j a z1 y)
      · exact y (s i a z1).1
    by_cases hi : i = j <;> by_cases hi' : i' = j
    · rw [hi, hi']
    · simp only [if_pos hi] at ha
      simp only [if_neg hi'] at ha'
      exact (cross i' hi' ha' ha).elim
    · simp only [if_neg hi] at ha
      simp only [if_pos hi'] at ha'
      exact (cross i hi ha ha').elim
    · simp only [if_neg hi] at ha
      simp only [if_neg hi'] at ha'
      exact dj i i' a ha ha'
theorem Sim.node {F H : Hp} {B : AS} {σ : L2.St} {n : Int} {ds : DS} {i k : Nat} {π : Pth} {d e : D} (S : Sim C F B σ H n ds) (hd : ds[i]? = some (some d)) (he : getP π d = some e) (hc : isCon e = true) (hT : C.T i = π.len + k + 1) : ∃ p Ae, Node C F H B σ n ds i π d e k p Ae := by
  obtain ⟨A, h1, h2, h3⟩ := S.rep
  obtain ⟨v, hv, r⟩ := h1 i d hd
  have stay : ∀ {F' H' : Hp}, GoC C.q F H F' H' → ∀ a o, A i a → H a = some o → H' a = some o := fun G a o ha e => G.go.hh a o e (h2 i a ha).2
  have r0 := r
  cases π with
  | nil =>
    cases he
    rw [hT, show Pth.len .nil + k + 1 = k + 1 by simp [Pth.len]] at r
    obtain ⟨p, o, rfl, hA, hH, ho⟩ := r.con hc
    refine ⟨p, A i, ⟨⟨_, hv, rfl⟩, r, h2 i, ⟨o, hH, ho⟩, (h2 i p hA).1, (h2 i p hA).2, fun F' H' G => ⟨_, hv, rfl⟩, fun o' e' A' ho' r' hA' => ⟨_, fun a ha => ha, S.repl A h1 h2 h3 hd hv hA hH ho ho' (by rw [hT, show Pth.len .nil + k + 1 = k + 1 by simp [Pth.len]]; exact r') hA'⟩⟩⟩
  | ix j =>
    rw [hT, show Pth.len (.ix j) + k + 1 = k + 1 + 1 by simp [Pth.len]; omega] at r
    cases d with
    | lst as =>
      have he : as[j]? = some e := he
      cases r with
      | @lstO _ _ q vs _ As h hA l c s dj =>
        obtain ⟨w, hw⟩ := get_of l he
        have rj := c j w e hw he
        obtain ⟨p, o, rfl, hAp, hH, ho⟩ := rj.con hc
        have hpi := (s j p hAp).1
        refine ⟨p, As j, ⟨⟨_, hv, q, vs, rfl, h, hw⟩, rj, fun a ha => h2 i a (s j a ha).1, ⟨o, hH, ho⟩, (h2 i p hpi).1, (h2 i p hpi).2, fun F' H' G => ⟨_, hv, q, vs, rfl, stay G q _ hA h, hw⟩, fun o' e' A' ho' r' hA' => ?_⟩⟩
        refine ⟨_, fun a ha => ?_, S.repl A h1 h2 h3 hd hv hpi hH ho ho' (by rw [hT, show Pth.len (.ix j) + k + 1 = k + 1 + 1 by simp [Pth.len]; omega]; exact list_upd (R := A i) h l c s dj he hw hAp hH ho r' (fun a ha => (hA' a ha).imp id fun z y => z.1 (h2 i a y).1) hA) fun a ha => ?_⟩
        · rcases ha with ha | ha | ha
          · exact .inl ha
          · exact .inl (h2 i a ha).1
          · exact .inr ha
        · rcases ha with ha | ha
          · exact .inl ha
          · exact (hA' a ha).imp (fun z => (s j a z).1) id
    | _ => cases he
  | fd f =>
    rw [hT, show Pth.len (.fd f) + k + 1 = k + 1 + 1 by simp [Pth.len]; omega] at r
    cases d with
    | obj C0 fds =>
      have he : fds.lookup f = some e := he
      cases r with
      | @objO _ _ q _ dx fs _ As h hA l c s dj =>
        obtain ⟨j, w, hw, g3, g4⟩ := lookup_pair l he
        have rj := c j w e g3 g4
        obtain ⟨p, o, rfl, hAp, hH, ho⟩ := rj.con hc
        have hpi := (s j p hAp).1
        have uniq : ∀ j', (fs.map (·.2))[j']? = some (.ref p) → (fds.map (·.2))[j']? = some e → As j' p := fun j' y1 y2 => by
          obtain ⟨p2, o2, e2, z2, _⟩ := (c j' _ e y1 y2).con hc
          cases e2; exact z2
        refine ⟨p, As j, ⟨⟨_, hv, q, C0, dx, fs, rfl, h, hw⟩, rj, fun a ha => h2 i a (s j a ha).1, ⟨o, hH, ho⟩, (h2 i p hpi).1, (h2 i p hpi).2, fun F' H' G => ⟨_, hv, q, C0, dx, fs, rfl, stay G q _ hA h, hw⟩, fun o' e' A' ho' r' hA' => ?_⟩⟩
        refine ⟨_, fun a ha => ?_, S.repl A h1 h2 h3 hd hv hpi hH ho ho' (by rw [hT, show Pth.len (.fd f) + k + 1 = k + 1 + 1 by simp [Pth.len]; omega]; exact obj_upd (R := A i) h l c s dj he hw uniq hH ho r' (fun a ha => (hA' a ha).imp (fun z => ⟨j, g3, g4, z⟩) fun z y => z.1 (h2 i a y).1) hA) fun a ha => ?_⟩
        · rcases ha with ha | ha | ha
          · exact .inl ha
          · exact .inl (h2 i a ha).1
          · exact .inr ha
        · rcases ha with ha | ha
          · exact .inl ha
          · exact (hA' a ha).imp (fun z => (s j a z).1) id
    | _ => cases he
end
end GW

/-! statements that change a thing of one's own -/
namespace GW
open PySem L2 PyProof.Rows
section
variable {C : Ctx} {F H : Hp} {B : AS} {σ : L2.St} {n : Int} {ds : DS} {i k : Nat} {π : Pth} {d : D} {p : Addr} {Ae : AS}
theorem upd_mk {H : Hp} {p : Addr} {o o' : HO} (hH : H p = some o) (ho : Mk o = true) : ∀ a u, H a = some u → Mk u = false → upd H p o' a = some u := fun a u e hm => by
  have : a ≠ p := fun z => by rw [z, hH] at e; cases e; rw [ho] at hm; cases hm
  rw [upd_ne this]; exact e
theorem Node.lst {as : List D} (N : Node C F H B σ n ds i π d (.lst as) 0 p Ae) : ∃ vs, H p = some (.lst vs) ∧ RpL C.K F H vs as ∧ ∀ vs' as', RpL C.K F H vs' as' → ∃ B', (∀ a, B' a → B a) ∧ Sim C F B' σ (upd H p (.lst vs')) n (ds.set i (some (setP π d (.lst as')))) := by
  have r := N.rep
  cases r with
  | @lstO _ _ _ vs _ As h hA l c s dj =>
    refine ⟨vs, h, ⟨l, fun i v d a b => (c i v d a b).z⟩, fun vs' as' R => ?_⟩
    obtain ⟨B', b1, b2⟩ := N.chg (.lst vs') (.lst as') (fun a => a = p) rfl (.lstO (fun _ _ => False) upd_same rfl R.1 (fun i v d a b => (R.2 i v d a b).z.mono (Same.refl _) (upd_mk h rfl) fun _ _ h => h.elim) (fun _ _ h => h.elim) (fun _ _ _ h => h.elim)) (fun a ha => by subst ha; exact .inl hA)
    exact ⟨B', fun a ha => (b1 a ha).elim id fun z => by subst z; exact N.pB, b2⟩
structure RpK (K : PySem.W.Frag) (F H : Hp) (kvs : List (Key × V)) (kds : List (Key × D)) : Prop where
  keys : kvs.map (·.1) = kds.map (·.1)
  its : ∀ (i : Nat) v d, (kvs.map (·.2))[i]? = some v → (kds.map (·.2))[i]? = some d → Rp K F H 0 v d (fun _ => False)
theorem Node.dct {kds : List (Key × D)} (N : Node C F H B σ n ds i π d (.dct kds) 0 p Ae) : ∃ kvs, H p = some (.dK kvs) ∧ RpK C.K F H kvs kds ∧ ∀ kvs' kds', RpK C.K F H kvs' kds' → ∃ B', (∀ a, B' a → B a) ∧ Sim C F B' σ (upd H p (.dK kvs')) n (ds.set i (some (setP π d (.dct kds')))) := by
  have r := N.rep
  cases r with
  | @dctO _ _ _ kvs _ h hA l c =>
    refine ⟨kvs, h, ⟨l, fun i v d a b => (c i v d a b).z⟩, fun kvs' kds' R => ?_⟩
    obtain ⟨B', b1, b2⟩ := N.chg (.dK kvs') (.dct kds') (fun a => a = p) rfl (.dctO upd_same rfl R.keys (fun i v d a b => Rp.z (A := fun _ => False) ((R.its i v d a b).z.mono (Same.refl _) (upd_mk h rfl) fun _ _ h => h.elim))) (fun a ha => by subst ha; exact .inl hA)
    exact ⟨B', fun a ha => (b1 a ha).elim id fun z => by subst z; exact N.pB, b2⟩
end
/-! ### fields -/
def posF {α : Type} (f : Str) : List (Str × α) → Nat
  | [] => 0
  | p :: r => if p.1 = f then 0 else posF f r + 1
theorem posF_eq {α β : Type} {f : Str} : ∀ {xs : List (Str × α)} {ys : List (Str × β)}, xs.map (·.1) = ys.map (·.1) → posF f xs = posF f ys
  | [], [], _ => rfl
  | [], _ :: _, h => by cases h
  | _ :: _, [], h => by cases h
  | x :: xs, y :: ys, h => by
    simp only [List.map_cons, List.cons.injEq] at h
    unfold posF
    rw [h.1, posF_eq h.2]
theorem putF_cons (f : Str) (v : V) (p : Str × V) (r : List (Str × V)) : putF f v (p :: r) = if p.1 = f then (f, v) :: r else p :: putF f v r := by
  by_cases h : p.1 = f <;> simp [putF, h]
theorem putF_its {f : Str} {v : V} : ∀ {fs : List (Str × V)} (i : Nat), ((putF f v fs).map (·.2))[i]? = if i = posF f fs then some v else (fs.map (·.2))[i]?
  | [], 0 => by simp [putF, posF]
  | [], i + 1 => by simp [putF, posF]
  | p :: r, i => by
    rw [putF_cons]
    unfold posF
    by_cases h : p.1 = f
    · simp only [if_pos h]
      cases i <;> simp
    · simp only [if_neg h]
      cases i with
      | zero => simp
      | succ i => simp [putF_its (fs := r) i]
theorem putD_its {f : Str} {v : D} : ∀ {fs : List (Str × D)} (i : Nat), ((putD f v fs).map (·.2))[i]? = if i = posF f fs then some v else (fs.map (·.2))[i]?
  | [], 0 => by simp [putD, posF]
  | [], i + 1 => by simp [putD, posF]
  | p :: r, i => by
    unfold putD posF
    by_cases h : p.1 = f
    · simp only [if_pos h]
      cases i <;> simp
    · simp only [if_neg h]
      cases i with
      | zero => simp
      | succ i => simp [putD_its (fs := r) i]
theorem put_keys {f : Str} {v : V} {d : D} : ∀ {fs : List (Str × V)} {fds : List (Str × D)}, fs.map (·.1) = fds.map (·.1) → (putF f v fs).map (·.1) = (putD f d fds).map (·.1)
  | [], [], _ => by simp [putF, putD]
  | [], _ :: _, h => by cases h
  | _ :: _, [], h => by cases h
  | x :: xs, y :: ys, h => by
    simp only [List.map_cons, List.cons.injEq] at h
    rw [putF_cons]
    unfold putD
    rw [h.1]
    by_cases hf : y.1 = f
    · simp [hf, h.2]
    · simp only [if_neg hf, List.map_cons]
      rw [h.1, put_keys h.2]
section
variable {C : Ctx} {F H : Hp} {B : AS} {σ : L2.St} {n : Int} {ds : DS} {i k : Nat} {π : Pth} {d : D} {p : Addr} {Ae : AS}
/-- a field of an object of one's own -/
theorem Node.obj {C0 : Addr} {fds : List (Str × D)} (N : Node C F H B σ n ds i π d (.obj C0 fds) k p Ae) : ∃ dx fs, H p = some (.ins C0 dx fs) ∧ fs.length = fds.length ∧
    ∀ (f : Str) (v : V) (d' : D) (A' : AS), Rp C.K F H k v d' A' → (∀ a, A' a → ¬ B a ∧ F a = none ∧ C.q ≠ some a ∧ ∃ o, H a = some o ∧ Mk o = true) →
      ∃ B', (∀ a, B' a → B a ∨ A' a) ∧ Sim C F B' σ (upd H p (.ins C0 dx (putF f v fs))) n (ds.set i (some (setP π d (.obj C0 (putD f d' fds))))) := by
  have r := N.rep
  cases r with
  | @objO _ _ _ _ dx fs _ As h hA l c s dj =>
    refine ⟨dx, fs, h, by have := congrArg List.length l; simpa using this, fun f v d' A' r' hA' => ?_⟩
    classical
    have hup : ∀ a u, a ≠ p → H a = some u → upd H p (.ins C0 dx (putF f v fs)) a = some u := fun a u hne e => by rw [upd_ne hne]; exact e
    have hpos := posF_eq (f := f) l
    obtain ⟨B', b1, b2⟩ := N.chg (.ins C0 dx (putF f v fs)) (.obj C0 (putD f d' fds)) (fun a => Ae a ∨ A' a) rfl (.objO (fun j => if j = posF f fs then A' else As j) upd_same (.inl hA) (put_keys l) (fun j w e e1 e2 => by
        rw [putF_its] at e1
        rw [putD_its, ← hpos] at e2
        by_cases hj : j = posF f fs
        · simp only [if_pos hj] at e1 e2 ⊢
          cases e1; cases e2
          exact r'.mono (Same.refl _) (upd_mk h rfl) fun a u ha e => hup a u (fun z => by subst z; exact (hA' _ ha).1 N.pB) e
        · simp only [if_neg hj] at e1 e2 ⊢
          exact (c j w e e1 e2).mono (Same.refl _) (upd_mk h rfl) fun a u ha e => hup a u (s j a ha).2 e) (fun j a ha => by
        by_cases hj : j = posF f fs
        · simp only [if_pos hj] at ha
          exact ⟨.inr ha, fun z => by subst z; exact (hA' _ ha).1 N.pB⟩
        · simp only [if_neg hj] at ha
          exact ⟨.inl (s j a ha).1, (s j a ha).2⟩) (fun j j' a ha ha' => by
        have cross : ∀ j, As j a → A' a → False := fun j z1 z2 => (hA' a z2).1 (N.own a (s j a z1).1).1
        by_cases hj : j = posF f fs <;> by_cases hj' : j' = posF f fs
        · rw [hj, hj']
        · simp only [if_pos hj] at ha
          simp only [if_neg hj'] at ha'
          exact (cross j' ha' ha).elim
        · simp only [if_neg hj] at ha
          simp only [if_pos hj'] at ha'
          exact (cross j ha ha').elim
        · simp only [if_neg hj] at ha
          simp only [if_neg hj'] at ha'
          exact dj j j' a ha ha')) (fun a ha => ha.imp id fun z => hA' a z)
    exact ⟨B', fun a ha => (b1 a ha).elim .inl fun z => z.elim (fun y => .inl (N.own a y).1) .inr, b2⟩
/-- the heap's step -/
theorem Node.goS {F0 H0 : Hp} {B' : AS} {e : D} {n0 : Int} {ds0 : DS} {o' : HO} (S : Sim C F0 B σ H0 n0 ds0) (G : GoC C.q F0 H0 F H) (S1 : Sim C F B σ H n ds) (N : Node C F H B σ n ds i π d e k p Ae) (hB : ∀ a, B' a → B a ∨ H0 a = none) : GoS B F0 H0 B' F (upd H p o') := by
  have g := G.toS (B := B) S.qB
  refine ⟨g.ff, fun a u e => ?_, fun a u e nb => ?_, fun a u e hm => ?_, g.nf, hB, fun a u e => ?_⟩
  · have : a ≠ p := fun z => by rw [z, (S1.bok p N.pB).1] at e; cases e
    rw [upd_ne this]; exact g.fh a u e
  · have : a ≠ p := fun z => nb (z ▸ N.pB)
    rw [upd_ne this]; exact g.hh a u e nb
  · have : a ≠ p := fun z => by
      obtain ⟨o, h1, h2⟩ := N.mko
      have h3 := g.ht a u e hm
      rw [z, h1] at h3; cases h3
      rw [h2] at hm; cases hm
    rw [upd_ne this]; exact g.ht a u e hm
  · by_cases h : a = p
    · exact ⟨o', by rw [h]; exact upd_same⟩
    · obtain ⟨u', e'⟩ := g.dm a u e
      exact ⟨u', by rw [upd_ne h]; exact e'⟩
end
/-! ### places -/
def conAt (i : Nat) (π : Pth) (ds : DS) : Bool := match ds[i]? with
  | some (some d) => (match getP π d with | some e => isCon e | none => false)
  | _ => false
def RPl (σ : L2.St) (i : Nat) : Hp → Hp → Hp → V → Pth → Prop := fun _ _ H' v π => ∃ p, v = .ref p ∧ ∃ v0, σ[i]? = some (some v0) ∧ PthV H' π v0 p
def WPl (C : Ctx) (wx : WX) (i : Nat) (mp : Mo Pth) : TE := fun σ H Q => ∃ F B n ds, Sim C F B σ H n ds ∧ WL C wx (RPl σ i) mp F B n ds σ H Q
def mPN (i : Nat) : Mo Pth := fun n ds => if conAt i .nil ds = true then some (.ok .nil, n) else none
def mPI (i : Nat) (m : M) : Mo Pth := fun n ds => match ds[i]? with
  | some (some (.lst as)) => mb m (fun d n ds => match d with
    | .int z => (match ixN as.length z with
      | some j => if conAt i (.ix j) ds = true then some (.ok (.ix j), n) else none
      | none => none)
    | _ => none) n ds
  | _ => none
def mPF (i : Nat) (C0 : Addr) (f : Str) : Mo Pth := fun n ds => match ds[i]? with
  | some (some (.obj C1 _)) => if C1 = C0 ∧ conAt i (.fd f) ds = true then some (.ok (.fd f), n) else none
  | _ => none
theorem conAt_ok {i : Nat} {π : Pth} {ds : DS} (h : conAt i π ds = true) : ∃ d e, ds[i]? = some (some d) ∧ getP π d = some e ∧ isCon e = true := by
  unfold conAt at h
  split at h
  · rename_i d hd
    split at h
    · rename_i e he; exact ⟨d, e, hd, he, h⟩
    · cases h
  · cases h
section
variable {X : Cx} {C : Ctx} {wx : WX} {kr k : Nat} {a b e : Expr} {pos : Pos} {m : M}
theorem pl_nil {i : Nat} (h : PE X e (tVar i)) (hT : C.T i = k + 1) : PE X e (WPl C wx i (mPN i)) := h.wk fun σ H Q w => by
  obtain ⟨F, B, n, ds, S, h⟩ := w
  unfold WL mPN at h
  by_cases hc : conAt i .nil ds = true
  · simp only [if_pos hc] at h
    obtain ⟨d, e, hd, he, hce⟩ := conAt_ok hc
    obtain ⟨p, Ae, N⟩ := S.node hd he hce (k := k) (by rw [hT]; simp [Pth.len])
    obtain ⟨v, hv, hp⟩ := N.pv
    have hp : v = .ref p := hp
    subst hp
    exact ⟨_, hv, h _ F H (GoC.refl S.fh) S ⟨p, rfl, _, hv, rfl⟩⟩
  · simp only [if_neg hc] at h
theorem pl_ix {i : Nat} (ha : PE X a (tVar i)) (hb : PE X b (W C wx .bo 0 m)) (hT : C.T i = k + 2) (hs : PlainIx b := by intro _ _; rfl) (hK : X.K = C.K := by rfl) : PE X (.Subscript a b pos) (WPl C wx i (mPI i m)) :=
  (pe_ix (r := rIxL C.K) (by rw [← hK]; exact ix_list) ha hb hs).wk fun σ H Q w => by
  obtain ⟨F, B, n, ds, S, h⟩ := w
  cases hd : ds[i]? with
  | none => unfold WL mPI at h; simp only [hd] at h
  | some o =>
    cases o with
    | none => unfold WL mPI at h; simp only [hd] at h
    | some d =>
      cases d with
      | lst as =>
        obtain ⟨A, g1, g2, _⟩ := S.rep
        obtain ⟨v, hv, r⟩ := g1 i _ hd
        rw [hT] at r
        cases r with
        | @lstO _ _ q vs _ As h3 hA l c s dj =>
          have h' : WL C wx (RPl σ i) (mb m (fun d n ds => match d with
            | .int z => (match ixN as.length z with
              | some j => if conAt i (.ix j) ds = true then some (.ok (.ix j), n) else none
              | none => none)
            | _ => none)) F B n ds σ H Q := by
            have e : mPI i m n ds = mb m (fun d n ds => match d with
              | .int z => (match ixN as.length z with
                | some j => if conAt i (.ix j) ds = true then some (.ok (.ix j), n) else none
                | none => none)
              | _ => none) n ds := by simp only [mPI, hd]
            unfold WL at h ⊢
            rw [← e]; exact h
          refine ⟨_, hv, F, B, n, ds, S, (h'.bind fun F1 H1 F2 H2 v d G r => r).mono fun y H1 ⟨F1, n1, d1, G1, S1, ⟨A1, r1, f1⟩, h1⟩ => ?_⟩
          unfold WL at h1
          cases d1 with
          | int z =>
            have ey := r1.int_
            subst ey
            cases hj : ixN as.length z with
            | none => simp only [hj] at h1
            | some j =>
              by_cases hc : conAt i (.ix j) ds = true
              · simp only [hj, if_pos hc] at h1
                obtain ⟨d, e, hd', he, hce⟩ := conAt_ok hc
                rw [hd] at hd'; cases hd'
                obtain ⟨p, Ae, N⟩ := S1.node hd he hce (k := k) (by rw [hT]; simp [Pth.len]; omega)
                obtain ⟨v, hv', q', vs', e1, e2, e3⟩ := N.pv
                rw [hv] at hv'; cases hv'
                cases e1
                have e4 := G1.go.hh q _ h3 (g2 i q hA).2
                rw [e2] at e4; cases e4
                refine ⟨q, vs, z, .ref p, rfl, rfl, .inl (.inl e2), ?_, h1 _ F1 H1 (GoC.refl S1.fh) S1 ⟨p, rfl, _, hv, q, vs, rfl, e2, e3⟩⟩
                unfold atI
                rw [l, hj]
                exact e3
              · simp only [hj, if_neg hc] at h1
          | _ => exact h1.elim
      | _ => unfold WL mPI at h; simp only [hd] at h
theorem pl_fd {i : Nat} {C0 : Addr} {f : Str} (hcl : Cls C.K C0) (hn : NoAttr C.K C0 f) (ha : PE X a (tVar i)) (hT : C.T i = k + 2) (hb : attributeBase a f X.env (eval a X.env) = eval a X.env := by rfl) (hK : X.K = C.K := by rfl) : PE X (.Attribute a f pos) (WPl C wx i (mPF i C0 f)) :=
  (pe_fld ha hb).wk fun σ H Q w => by
  obtain ⟨F, B, n, ds, S, h⟩ := w
  cases hd : ds[i]? with
  | none => unfold WL mPF at h; simp only [hd] at h
  | some o =>
    cases o with
    | none => unfold WL mPF at h; simp only [hd] at h
    | some d =>
      cases d with
      | obj C1 fds =>
        unfold WL mPF at h
        simp only [hd] at h
        by_cases hc : C1 = C0 ∧ conAt i (.fd f) ds = true
        · simp only [if_pos hc] at h
          obtain ⟨hC, hc⟩ := hc
          subst hC
          obtain ⟨d, e, hd', he, hce⟩ := conAt_ok hc
          rw [hd] at hd'; cases hd'
          obtain ⟨p, Ae, N⟩ := S.node hd he hce (k := k) (by rw [hT]; simp [Pth.len]; omega)
          obtain ⟨A, g1, g2, _⟩ := S.rep
          obtain ⟨v, hv, r⟩ := g1 i _ hd
          obtain ⟨v', hv', q, C2, dx, fs, rfl, e2, e3⟩ := N.pv
          rw [hv] at hv'; cases hv'
          rw [hT] at r
          cases r with
          | objO As h3 hA l c s dj =>
            rw [e2] at h3; cases h3
            rw [hK]
            exact ⟨_, hv, q, C1, dx, fs, .ref p, rfl, e2, hcl, hn, e3, h _ F H (GoC.refl S.fh) S ⟨p, rfl, _, hv, q, C1, dx, fs, rfl, e2, e3⟩⟩
        · simp only [if_neg hc] at h
      | _ => unfold WL mPF at h; simp only [hd] at h
end
end GW

namespace GW
open PySem L2 PyProof.Rows
def PlT (mp : Mo Pth) (l : Nat) : Prop := ∀ n ds π n', mp n ds = some (.ok π, n') → π.len = l
theorem plt_nil {i : Nat} : PlT (mPN i) 0 := fun n ds π n' h => by
  unfold mPN at h
  split at h
  · cases h; rfl
  · cases h
theorem plt_ix {i : Nat} {m : M} : PlT (mPI i m) 1 := fun n ds π n' h => by
  unfold mPI at h
  split at h
  · unfold mb at h
    split at h
    · cases h
    · cases h
    · dsimp only at h
      split at h
      · split at h
        · split at h
          · cases h; rfl
          · cases h
        · cases h
      · cases h
  · cases h
theorem plt_fd {i : Nat} {C0 : Addr} {f : Str} : PlT (mPF i C0 f) 1 := fun n ds π n' h => by
  unfold mPF at h
  split at h
  · split at h
    · cases h; rfl
    · cases h
  · cases h
/-- place.method(args): the list's items, the arguments -/
def sMeth (i : Nat) (mp : Mo Pth) (ms : Mo (List D)) (f : List D → List D → Option (List D)) : MS := sE mp fun π n ds => match ds[i]? with
  | some (some d0) => (match getP π d0 with
    | some (.lst as) => sE ms (fun args n ds => match f as args with
      | some as' => some (.nx, n, ds.set i (some (setP π d0 (.lst as'))))
      | none => none) n ds
    | _ => none)
  | _ => none
def LOpS (K : PySem.W.Frag) (r : V → List V → Hp → VK → Prop) (f : List D → List D → Option (List D)) : Prop := ∀ (F H : Hp) (p : Addr) (vs xs : List V) (as args as' : List D), Same F H → H p = some (.lst vs) → RpL K F H vs as → RpL K F H xs args → f as args = some as' → ∃ vs', RpL K F H vs' as' ∧ ∀ Q : VK, (∀ w, Q w (upd H p (.lst vs'))) → r (.ref p) xs H Q
theorem RpL.append {K : PySem.W.Frag} {G H : Hp} {vs ws : List V} {ds es : List D} (a : RpL K G H vs ds) (b : RpL K G H ws es) : RpL K G H (vs ++ ws) (ds ++ es) := by
  refine ⟨by simp [a.1, b.1], fun i v d h1 h2 => ?_⟩
  by_cases hi : i < vs.length
  · rw [List.getElem?_append_left hi] at h1
    rw [List.getElem?_append_left (by rw [← a.1]; exact hi)] at h2
    exact a.2 i v d h1 h2
  · rw [List.getElem?_append_right (by omega)] at h1
    rw [List.getElem?_append_right (by rw [← a.1]; omega), ← a.1] at h2
    exact b.2 _ v d h1 h2
theorem RpL.set {K : PySem.W.Frag} {G H : Hp} {vs : List V} {ds : List D} {v : V} {d : D} {A : AS} (a : RpL K G H vs ds) (r : Rp K G H 0 v d A) (j : Nat) : RpL K G H (vs.set j v) (ds.set j d) := by
  refine ⟨by simp [a.1], fun i v' d' h1 h2 => ?_⟩
  by_cases hi : j = i
  · subst hi
    by_cases hl : j < vs.length
    · rw [List.getElem?_set_self hl] at h1
      rw [List.getElem?_set_self (by rw [← a.1]; exact hl)] at h2
      cases h1; cases h2
      exact r.z
    · rw [List.getElem?_eq_none (by rw [List.length_set]; omega)] at h1; cases h1
  · rw [List.getElem?_set_ne hi] at h1 h2
    exact a.2 i v' d' h1 h2
theorem RpL.rev {K : PySem.W.Frag} {G H : Hp} {vs : List V} {ds : List D} (a : RpL K G H vs ds) : RpL K G H vs.reverse ds.reverse := by
  refine ⟨by simp [a.1], fun i v' d' h1 h2 => ?_⟩
  have hl : i < vs.length := by
    have := (List.getElem?_eq_some_iff.mp h1).1
    simpa using this
  rw [List.getElem?_reverse hl] at h1
  rw [List.getElem?_reverse (by rw [← a.1]; exact hl), ← a.1] at h2
  exact a.2 _ v' d' h1 h2
def fAppend : List D → List D → Option (List D)
  | as, [d] => if as.length < 16777216 then some (as ++ [d]) else none
  | _, _ => none
theorem lop_append {K : PySem.W.Frag} : LOpS K rAppend fAppend := fun F H p vs xs as args as' hs hp ra rx e => by
  match args, rx, e with
  | [d], rx, e =>
    obtain ⟨v, rfl, r⟩ := rx.one
    simp only [fAppend] at e
    split at e
    · rename_i hl
      cases e
      refine ⟨vs ++ [v], ra.append (RpL.cons r RpL.nil), fun Q q => ⟨p, vs, v, rfl, rfl, hp, by rw [sizeLine_eq, ra.1]; exact hl, q _⟩⟩
    · cases e
section
variable {X : Cx} {C : Ctx} {wx : WX} {kr k : Nat} {o a b e : Expr} {es : List Expr} {pos : Pos} {m : M} {ms : Mo (List D)} {mp : Mo Pth}
theorem Sim.nodeP {F H : Hp} {B : AS} {σ : L2.St} {n : Int} {ds : DS} {i l : Nat} {π : Pth} {d e : D} {p : Addr} (S : Sim C F B σ H n ds) (hd : ds[i]? = some (some d)) (he : getP π d = some e) (hc : isCon e = true) (hT : C.T i = l + k + 1) (hl : π.len = l) (hp : ∃ v0, σ[i]? = some (some v0) ∧ PthV H π v0 p) : ∃ Ae, Node C F H B σ n ds i π d e k p Ae := by
  obtain ⟨p', Ae, N⟩ := S.node hd he hc (k := k) (by rw [hT, hl])
  obtain ⟨v0, h1, h2⟩ := hp
  obtain ⟨v1, h3, h4⟩ := N.pv
  rw [h1] at h3; cases h3
  have := h2.inj h4
  subst this
  exact ⟨Ae, N⟩
theorem ws_meth {i l : Nat} {name : Str} {id : String} {r : V → List V → Hp → VK → Prop} {f : List D → List D → Option (List D)} {apos cpos : Pos} (slot : Slot "list" name id) (hty : typeOf (.builtin id) = pure (.type "method_descriptor")) (hm : MtR X id r) (hf : LOpS C.K r f)
    (ho : PE X o (WPl C wx i mp)) (hl : PlT mp l) (hT : C.T i = l + 1) (ha : PA X (e :: es) (WA C wx .fz ms)) (hbase : attributeBase o name X.env (eval o X.env) = eval o X.env := by rfl)
    (hfew : ((backTo cpos (starEach (e :: es) X.env)).all (fun x => !x.1) && (backToKw cpos (keywordEach [] X.env)).all (fun x => x.1.isSome)
      && decide ((e :: es).length + ([] : List Keyword).length + (if ([] : List Keyword).isEmpty then 0 else 1) < 30)) = true := by rfl)
    (hline : (apos.endLine == cpos.line) = true := by rfl) (hs : starEach (e :: es) X.env = (false, eval e X.env) :: starEach es X.env := by rfl) (hplain : (backTo cpos (starEach es X.env)).any (·.1) = false := by rfl)
    (hsw : swapsWith (.Call (.Attribute o name apos) (e :: es) [] cpos) none pos.line X.env = pure false := by rfl) : PS X (.Expr (.Call (.Attribute o name apos) (e :: es) [] cpos) pos) (WS C wx kr (sMeth i mp ms f)) :=
  (ps_expr (pe_bm PySem.F.plainAttrs_list slot hty hm ho ha hbase hfew hline hs hplain) hsw).wk fun E σ H w => by
  obtain ⟨F, B, n, ds, S, h⟩ := w
  refine ⟨F, B, n, ds, S, WL.strong hl ((wsl_e (R := fun H F' H' v d => RPl σ i H F' H' v d ∧ d.len = l) S h).mono fun v H1 ⟨F1, n1, π, G1, S1, ⟨⟨p, hvp, hpv⟩, hπ⟩, h1⟩ => ?_)⟩
  subst hvp
  cases hd : ds[i]? with
  | none => unfold WSL at h1; simp only [hd] at h1
  | some x =>
    cases x with
    | none => unfold WSL at h1; simp only [hd] at h1
    | some d0 =>
      cases he : getP π d0 with
      | none => unfold WSL at h1; simp only [hd, he] at h1
      | some e0 =>
        cases e0 with
        | lst as =>
          have h1' : WSL C wx kr (sE ms fun args n ds => match f as args with
            | some as' => some (.nx, n, ds.set i (some (setP π d0 (.lst as'))))
            | none => none) F B n1 ds H E := by
            refine WSL.tr (GoS.refl S.fh) ?_ h1
            simp only [hd, he]
          obtain ⟨Ae, N1⟩ := S1.nodeP hd he rfl (k := 0) (by rw [hT]) hπ hpv
          obtain ⟨vs, hvs, _, _⟩ := N1.lst
          refine ⟨.inl ⟨rfl, _, .inl (.inl hvs)⟩, F1, B, n1, ds, S1, (wsl_e0 (R := RA C .fz) (G1.toS S.qB) S1 h1').mono fun xs H2 ⟨F2, n2, args, G2, S2, r2, h2⟩ => ?_⟩
          obtain ⟨Ae2, N2⟩ := S2.nodeP hd he rfl (k := 0) (by rw [hT]) hπ (N1.keep F2 H2 G2)
          obtain ⟨vs2, hvs2, rv2, mu⟩ := N2.lst
          unfold WSL at h2
          cases hf2 : f as args with
          | none => simp only [hf2] at h2
          | some as' =>
            simp only [hf2] at h2
            obtain ⟨vs', r', hr⟩ := hf F2 H2 p vs2 xs as args as' S2.fh hvs2 rv2 r2 hf2
            obtain ⟨B', b1, S3⟩ := mu vs' as' r'
            exact hr _ fun w => h2 σ F2 B' _ (N2.goS S (G1.trans G2) S2 fun a ha => .inl (b1 a ha)) S3
        | _ => unfold WSL at h1; simp only [hd, he] at h1
/-- place.method() -/
theorem ws_meth0 {i l : Nat} {name : Str} {id : String} {r : V → List V → Hp → VK → Prop} {f : List D → List D → Option (List D)} {apos cpos : Pos} (slot : Slot "list" name id) (hty : typeOf (.builtin id) = pure (.type "method_descriptor")) (hm : MtR X id r) (hf : LOpS C.K r f)
    (ho : PE X o (WPl C wx i mp)) (hl : PlT mp l) (hT : C.T i = l + 1) (hbase : attributeBase o name X.env (eval o X.env) = eval o X.env := by rfl)
    (hsw : swapsWith (.Call (.Attribute o name apos) [] [] cpos) none pos.line X.env = pure false := by rfl) (hline : (apos.endLine == cpos.line) = true := by rfl) : PS X (.Expr (.Call (.Attribute o name apos) [] [] cpos) pos) (WS C wx kr (sMeth i mp (ret (some [])) f)) :=
  (ps_expr (pe_bm0 PySem.F.plainAttrs_list slot hty hm ho hbase (by first | exact hline | rfl)) hsw).wk fun E σ H w => by
  obtain ⟨F, B, n, ds, S, h⟩ := w
  refine ⟨F, B, n, ds, S, WL.strong hl ((wsl_e (R := fun H F' H' v d => RPl σ i H F' H' v d ∧ d.len = l) S h).mono fun v H1 ⟨F1, n1, π, G1, S1, ⟨⟨p, hvp, hpv⟩, hπ⟩, h1⟩ => ?_)⟩
  subst hvp
  cases hd : ds[i]? with
  | none => unfold WSL at h1; simp only [hd] at h1
  | some x =>
    cases x with
    | none => unfold WSL at h1; simp only [hd] at h1
    | some d0 =>
      cases he : getP π d0 with
      | none => unfold WSL at h1; simp only [hd, he] at h1
      | some e0 =>
        cases e0 with
        | lst as =>
          obtain ⟨Ae, N1⟩ := S1.nodeP hd he rfl (k := 0) (by rw [hT]) hπ hpv
          obtain ⟨vs, hvs, rv, mu⟩ := N1.lst
          unfold WSL at h1
          cases hf2 : f as [] with
          | none => simp only [hd, he, sE, ret, hf2] at h1
          | some as' =>
            simp only [hd, he, sE, ret, hf2] at h1
            obtain ⟨vs', r', hr⟩ := hf F1 H1 p vs [] as [] as' S1.fh hvs rv RpL.nil hf2
            obtain ⟨B', b1, S3⟩ := mu vs' as' r'
            exact ⟨.inl ⟨rfl, _, .inl (.inl hvs)⟩, hr _ fun w => h1 σ F1 B' _ (N1.goS S G1 S1 fun a ha => .inl (b1 a ha)) S3⟩
        | _ => unfold WSL at h1; simp only [hd, he] at h1
end
end GW
namespace GW
open PySem L2 PyProof.Rows
theorem lop_rev {K : PySem.W.Frag} : LOpS K rReverse (fun as args => if args.isEmpty = true then some as.reverse else none) := fun F H p vs xs as args as' hs hp ra rx e => by
  match args, rx, e with
  | [], rx, e =>
    cases e
    have : xs = [] := List.eq_nil_of_length_eq_zero rx.1
    subst this
    exact ⟨_, ra.rev, fun Q q => ⟨p, vs, rfl, rfl, hp, q _⟩⟩
theorem lop_clear {K : PySem.W.Frag} : LOpS K rClear (fun as args => if args.isEmpty = true then some [] else none) := fun F H p vs xs as args as' hs hp ra rx e => by
  match args, rx, e with
  | [], rx, e =>
    cases e
    have : xs = [] := List.eq_nil_of_length_eq_zero rx.1
    subst this
    exact ⟨_, RpL.nil, fun Q q => ⟨p, vs, rfl, rfl, hp, q _⟩⟩
section
variable {X : Cx} {C : Ctx} {wx : WX} {kr k : Nat} {o a b e : Expr} {es : List Expr} {pos : Pos} {m : M} {ms : Mo (List D)} {mp : Mo Pth}
/-- place.extend(e), e a new list -/
def sExt (i : Nat) (mp : Mo Pth) (m : M) : MS := sE mp fun π n ds => match ds[i]? with
  | some (some d0) => (match getP π d0 with
    | some (.lst as) => sE m (fun d n ds => match d with
      | .lst bs => if as.length + bs.length ≤ 16777216 then some (.nx, n, ds.set i (some (setP π d0 (.lst (as ++ bs))))) else none
      | _ => none) n ds
    | _ => none)
  | _ => none
theorem ws_ext {i l : Nat} {apos cpos : Pos} (ho : PE X o (WPl C wx i mp)) (hl : PlT mp l) (hT : C.T i = l + 1) (he : PE X e (W C wx .fz 1 m)) (hbase : attributeBase o "extend" X.env (eval o X.env) = eval o X.env := by rfl)
    (hfew : ((backTo cpos (starEach [e] X.env)).all (fun x => !x.1) && (backToKw cpos (keywordEach [] X.env)).all (fun x => x.1.isSome)
      && decide ([e].length + ([] : List Keyword).length + (if ([] : List Keyword).isEmpty then 0 else 1) < 30)) = true := by rfl)
    (hline : (apos.endLine == cpos.line) = true := by rfl) (hs : starEach [e] X.env = (false, eval e X.env) :: starEach [] X.env := by rfl) (hplain : (backTo cpos (starEach [] X.env)).any (·.1) = false := by rfl)
    (hsw : swapsWith (.Call (.Attribute o "extend" apos) [e] [] cpos) none pos.line X.env = pure false := by rfl) : PS X (.Expr (.Call (.Attribute o "extend" apos) [e] [] cpos) pos) (WS C wx kr (sExt i mp m)) :=
  (ps_expr (pe_bm PySem.F.plainAttrs_list PySem.F.slot_list_extend PySem.F.type_list_extend mt_extend ho (pa_cons he pa_nil hs) hbase hfew hline hs hplain) hsw).wk fun E σ H w => by
  obtain ⟨F, B, n, ds, S, h⟩ := w
  refine ⟨F, B, n, ds, S, WL.strong hl ((wsl_e (R := fun H F' H' v d => RPl σ i H F' H' v d ∧ d.len = l) S h).mono fun v H1 ⟨F1, n1, π, G1, S1, ⟨⟨p, hvp, hpv⟩, hπ⟩, h1⟩ => ?_)⟩
  subst hvp
  cases hd : ds[i]? with
  | none => unfold WSL at h1; simp only [hd] at h1
  | some x =>
    cases x with
    | none => unfold WSL at h1; simp only [hd] at h1
    | some d0 =>
      cases he : getP π d0 with
      | none => unfold WSL at h1; simp only [hd, he] at h1
      | some e0 =>
        cases e0 with
        | lst as =>
          have h1' : WSL C wx kr (sE m fun d n ds => match d with
            | .lst bs => if as.length + bs.length ≤ 16777216 then some (.nx, n, ds.set i (some (setP π d0 (.lst (as ++ bs))))) else none
            | _ => none) F B n1 ds H E := by
            refine WSL.tr (GoS.refl S.fh) ?_ h1
            simp only [hd, he]
          obtain ⟨Ae, N1⟩ := S1.nodeP hd he rfl (k := 0) (by rw [hT]) hπ hpv
          obtain ⟨vs, hvs, _, _⟩ := N1.lst
          refine ⟨.inl ⟨rfl, _, .inl (.inl hvs)⟩, F1, B, n1, ds, S1, (wsl_e0 (R := RV C .fz 1) (G1.toS S.qB) S1 h1').mono fun x H2 ⟨F2, n2, d2, G2, S2, ⟨A2, r2, f2⟩, h2⟩ => ?_⟩
          obtain ⟨Ae2, N2⟩ := S2.nodeP hd he rfl (k := 0) (by rw [hT]) hπ (N1.keep F2 H2 G2)
          obtain ⟨vs2, hvs2, rv2, mu⟩ := N2.lst
          cases r2 with
          | @lstO _ _ q ws bs _ hq hA l c s dj =>
            unfold WSL at h2
            by_cases hl2 : as.length + bs.length ≤ 16777216
            · simp only [if_pos hl2] at h2
              obtain ⟨B', b1, S3⟩ := mu (vs2 ++ ws) (as ++ bs) (rv2.append ⟨l, fun i v d a b => (c i v d a b).z⟩)
              exact ⟨p, q, vs2, ws, rfl, rfl, hvs2, hq, by rw [sizeLine_eq, rv2.1, l]; exact hl2, h2 σ F2 B' _ (N2.goS S (G1.trans G2) S2 fun a ha => .inl (b1 a ha)) S3⟩
            · simp only [if_neg hl2] at h2
          | _ => exact h2.elim
        | _ => unfold WSL at h1; simp only [hd, he] at h1
/-- place[j] = e -/
def sSetI (i : Nat) (m : M) (mp : Mo Pth) (mj : M) : MS := sE m fun d => sE mp fun π => sE mj fun z n ds => match z, ds[i]? with
  | .int z, some (some d0) => (match getP π d0 with
    | some (.lst as) => (match ixN as.length z with
      | some j => some (.nx, n, ds.set i (some (setP π d0 (.lst (as.set j d)))))
      | none => none)
    | _ => none)
  | _, _ => none
theorem ws_seti {i l : Nat} {p2 : Pos} {mj : M} (he : PE X e (W C wx .fz 0 m)) (ho : PE X o (WPl C wx i mp)) (hl : PlT mp l) (hT : C.T i = l + 1) (hj : PE X b (W C wx .bo 0 mj))
    (ha : ∀ v, assign (.Subscript o b p2) X.env v = (do
      let ov ← holding [v] (eval o X.env)
      let iv ← holding [v, ov] (eval b X.env)
      standAt p2
      holding [v, ov, iv] (setItem ov iv v)
      release [v, ov, iv] []) := by intro _; rfl) (hs : swapsWithSole [.Subscript o b p2] e pos.line X.env = pure false := by rfl) (hw : swappedStores [.Subscript o b p2] e X.env = pure none := by rfl) (h1 : (assignEach [.Subscript o b p2] X.env).map (·.2) = [assign (.Subscript o b p2) X.env] := by rfl) :
    PS X (.Assign [.Subscript o b p2] e pos) (WS C wx kr (sSetI i m mp mj)) := (ps_asg he (pg_sub ho hj set_list ha) hs hw h1).wk fun E σ H w => by
  obtain ⟨F, B, n, ds, S, h⟩ := w
  refine ⟨F, B, n, ds, S, (wsl_e (R := RV C .fz 0) S h).mono fun v H1 ⟨F1, n1, d, G1, S1, ⟨A1, r1, f1⟩, h1⟩ => ?_⟩
  refine ⟨F1, B, n1, ds, S1, WL.strong hl ((wsl_e0 (R := fun H F' H' v d => RPl σ i H F' H' v d ∧ d.len = l) (G1.toS S.qB) S1 h1).mono fun x H2 ⟨F2, n2, π, G2, S2, ⟨⟨p, hvp, hpv⟩, hπ⟩, h2⟩ => ?_)⟩
  subst hvp
  refine ⟨F2, B, n2, ds, S2, (wsl_e0 (R := RV C .bo 0) ((G1.trans G2).toS S.qB) S2 h2).mono fun y H3 ⟨F3, n3, z, G3, S3, ⟨A3, r3, f3⟩, h3⟩ => ?_⟩
  unfold WSL at h3
  cases z with
  | int z =>
    have ey := r3.int_
    subst ey
    cases hd : ds[i]? with
    | none => simp only [hd] at h3
    | some x =>
      cases x with
      | none => simp only [hd] at h3
      | some d0 =>
        simp only [hd] at h3
        cases he : getP π d0 with
        | none => simp only [he] at h3
        | some e0 =>
          cases e0 with
          | lst as =>
            simp only [he] at h3
            obtain ⟨Ae, N2⟩ := S2.nodeP hd he rfl (k := 0) (by rw [hT]) hπ hpv
            obtain ⟨Ae2, N3⟩ := S3.nodeP hd he rfl (k := 0) (by rw [hT]) hπ (N2.keep F3 H3 G3)
            obtain ⟨vs2, hvs2, rv2, mu⟩ := N3.lst
            cases hx : ixN as.length z with
            | none => simp only [hx] at h3
            | some j =>
              simp only [hx] at h3
              obtain ⟨B', b1, S4⟩ := mu (vs2.set j v) (as.set j d) (rv2.set (A := fun _ => False) ((Rp.go0 (g := .fz) r1 (G2.trans G3))) j)
              exact ⟨p, vs2, z, j, rfl, rfl, hvs2, by rw [rv2.1]; exact hx, h3 σ F3 B' _ (N3.goS S (G1.trans (G2.trans G3)) S3 fun a ha => .inl (b1 a ha)) S4⟩
          | _ => simp only [he] at h3
  | _ => exact h3.elim
/-! ### dicts -/
def putKD (kvs : List (Key × D)) (k : Key) (v : D) : List (Key × D) := if (kvs.any fun kv => decide (kv.1 = k)) = true then kvs.map (fun kv => if kv.1 = k then (kv.1, v) else kv) else kvs ++ [(k, v)]
theorem any_keys {α β : Type} {xs : List (Key × α)} {ys : List (Key × β)} (h : xs.map (·.1) = ys.map (·.1)) (k : Key) : (xs.any fun kv => decide (kv.1 = k)) = (ys.any fun kv => decide (kv.1 = k)) := by
  induction ys generalizing xs with
  | nil => cases xs with | nil => rfl | cons _ _ => cases h
  | cons y r ih =>
    cases xs with
    | nil => cases h
    | cons x r' =>
      simp only [List.map_cons, List.cons.injEq] at h
      simp only [List.any_cons]
      rw [h.1, ih h.2]
theorem RpK.put {K : PySem.W.Frag} {F H : Hp} {kvs : List (Key × V)} {kds : List (Key × D)} {v : V} {d : D} {A : AS} (R : RpK K F H kvs kds) (r : Rp K F H 0 v d A) (key : Key) : RpK K F H (putK kvs key v) (putKD kds key d) := by
  unfold putK putKD
  rw [any_keys R.keys key]
  split
  · refine ⟨?_, fun i w e h1 h2 => ?_⟩
    · rw [List.map_map, List.map_map]
      have e1 : ((fun x : Key × V => x.1) ∘ fun kv => if kv.1 = key then (kv.1, v) else kv) = fun x => x.1 := by funext x; simp only [Function.comp]; split <;> rfl
      have e2 : ((fun x : Key × D => x.1) ∘ fun kv => if kv.1 = key then (kv.1, d) else kv) = fun x => x.1 := by funext x; simp only [Function.comp]; split <;> rfl
      rw [e1, e2]; exact R.keys
    · rw [List.map_map, List.getElem?_map] at h1 h2
      cases g1 : kvs[i]? with
      | none => rw [g1] at h1; cases h1
      | some x =>
        cases g2 : kds[i]? with
        | none => rw [g2] at h2; cases h2
        | some y =>
          rw [g1] at h1
          rw [g2] at h2
          have hk : x.1 = y.1 := by
            have := congrArg (fun l => l[i]?) R.keys
            simp only [List.getElem?_map, g1, g2, Option.map_some, Option.some.injEq] at this
            exact this
          simp only [Option.map_some, Function.comp, Option.some.injEq] at h1 h2
          by_cases hx : x.1 = key
          · rw [if_pos hx] at h1
            rw [if_pos (hk ▸ hx)] at h2
            subst h1 h2
            exact r.z
          · rw [if_neg hx] at h1
            rw [if_neg (hk ▸ hx)] at h2
            subst h1 h2
            exact R.its i x.2 y.2 (by rw [List.getElem?_map, g1]; rfl) (by rw [List.getElem?_map, g2]; rfl)
  · refine ⟨by rw [List.map_append, List.map_append, R.keys]; rfl, fun i w e h1 h2 => ?_⟩
    rw [List.map_append] at h1 h2
    have hl : (kvs.map (·.2)).length = (kds.map (·.2)).length := by
      have := congrArg List.length R.keys
      simpa using this
    exact (RpL.append (K := K) (G := F) (H := H) (vs := kvs.map (·.2)) (ds := kds.map (·.2)) ⟨hl, R.its⟩ (RpL.cons r RpL.nil)).2 i w e h1 h2
def sSetK (i : Nat) (m : M) (mp : Mo Pth) (mj : M) : MS := sE m fun d => sE mp fun π => sE mj fun z n ds => match keyD z, ds[i]? with
  | some key, some (some d0) => (match getP π d0 with
    | some (.dct kds) => if kds.length < 16777216 then some (.nx, n, ds.set i (some (setP π d0 (.dct (putKD kds key d))))) else none
    | _ => none)
  | _, _ => none
theorem ws_setk {i l : Nat} {p2 : Pos} {mj : M} (hu : X.A.units + 1 < cLine) (he : PE X e (W C wx .fz 0 m)) (ho : PE X o (WPl C wx i mp)) (hl : PlT mp l) (hT : C.T i = l + 1) (hj : PE X b (W C wx .bo 0 mj))
    (ha : ∀ v, assign (.Subscript o b p2) X.env v = (do
      let ov ← holding [v] (eval o X.env)
      let iv ← holding [v, ov] (eval b X.env)
      standAt p2
      holding [v, ov, iv] (setItem ov iv v)
      release [v, ov, iv] []) := by intro _; rfl) (hs : swapsWithSole [.Subscript o b p2] e pos.line X.env = pure false := by rfl) (hw : swappedStores [.Subscript o b p2] e X.env = pure none := by rfl) (h1 : (assignEach [.Subscript o b p2] X.env).map (·.2) = [assign (.Subscript o b p2) X.env] := by rfl) :
    PS X (.Assign [.Subscript o b p2] e pos) (WS C wx kr (sSetK i m mp mj)) := (ps_asg he (pg_sub ho hj (set_dict hu) ha) hs hw h1).wk fun E σ H w => by
  obtain ⟨F, B, n, ds, S, h⟩ := w
  refine ⟨F, B, n, ds, S, (wsl_e (R := RV C .fz 0) S h).mono fun v H1 ⟨F1, n1, d, G1, S1, ⟨A1, r1, f1⟩, h1⟩ => ?_⟩
  refine ⟨F1, B, n1, ds, S1, WL.strong hl ((wsl_e0 (R := fun H F' H' v d => RPl σ i H F' H' v d ∧ d.len = l) (G1.toS S.qB) S1 h1).mono fun x H2 ⟨F2, n2, π, G2, S2, ⟨⟨p, hvp, hpv⟩, hπ⟩, h2⟩ => ?_)⟩
  subst hvp
  refine ⟨F2, B, n2, ds, S2, (wsl_e0 (R := RV C .bo 0) ((G1.trans G2).toS S.qB) S2 h2).mono fun y H3 ⟨F3, n3, z, G3, S3, ⟨A3, r3, f3⟩, h3⟩ => ?_⟩
  unfold WSL at h3
  cases hk : keyD z with
  | none => simp only [hk] at h3
  | some key =>
    have ey := key_rel r3 hk
    subst ey
    cases hd : ds[i]? with
    | none => simp only [hk, hd] at h3
    | some x =>
      cases x with
      | none => simp only [hk, hd] at h3
      | some d0 =>
        simp only [hk, hd] at h3
        cases he : getP π d0 with
        | none => simp only [he] at h3
        | some e0 =>
          cases e0 with
          | dct kds =>
            simp only [he] at h3
            obtain ⟨Ae, N2⟩ := S2.nodeP hd he rfl (k := 0) (by rw [hT]) hπ hpv
            obtain ⟨Ae2, N3⟩ := S3.nodeP hd he rfl (k := 0) (by rw [hT]) hπ (N2.keep F3 H3 G3)
            obtain ⟨kvs, hvs2, rv2, mu⟩ := N3.dct
            have hlen : kvs.length = kds.length := by
              have := congrArg List.length rv2.keys
              simpa using this
            by_cases hll : kds.length < 16777216
            · simp only [if_pos hll] at h3
              obtain ⟨B', b1, S4⟩ := mu (putK kvs key v) (putKD kds key d) (rv2.put (A := fun _ => False) ((Rp.go0 (g := .fz) r1 (G2.trans G3))) key)
              exact ⟨p, _, rfl, .inl ⟨kvs, key, hvs2, rfl, by rw [sizeLine_eq, hlen]; exact hll, rfl⟩, h3 σ F3 B' _ (N3.goS S (G1.trans (G2.trans G3)) S3 fun a ha => .inl (b1 a ha)) S4⟩
            · simp only [if_neg hll] at h3
          | _ => simp only [he] at h3
/-- {} -/
theorem ve_dnew {pos : Pos} : PE X (.Dict [] [] pos) (W C wx .fz 1 (mC (.dct []))) := pe_dnewK.wk fun σ H Q w => by
  obtain ⟨F, B, n, ds, S, h⟩ := w
  intro p hp
  have h : ∀ v F' H', GoC C.q F H F' H' → Sim C F' B σ H' n ds → RV C .fz 1 H F' H' v (.dct []) → Q v H' := h
  obtain ⟨G2, S2⟩ := S.newO (o := .dK []) hp
  exact h (.ref p) F _ G2 S2 ⟨fun a => a = p, .dctO upd_same rfl rfl (fun i v d a b => by simp at a), Fr.one S.fh hp rfl⟩
/-- self.f = e -/
def sSetF (i : Nat) (m : M) (C0 : Addr) (f : Str) : MS := sE m fun d n ds => match ds[i]? with
  | some (some (.obj C1 fds)) => if C1 = C0 ∧ fds.length < 1000 then some (.nx, n, ds.set i (some (.obj C1 (putD f d fds)))) else none
  | _ => none
theorem ws_setf {i : Nat} {f : Str} {C0 : Addr} {p2 : Pos} (hcl : Cls C.K C0) (hn : NoAttr C.K C0 f) (he : PE X e (W C wx .fz k m)) (ho : PE X o (tVar i)) (hT : C.T i = k + 1) (hs : swapsWith e (some (.Attribute o f p2)) pos.line X.env = pure false := by rfl) (hK : X.K = C.K := by rfl) : PS X (.Assign [.Attribute o f p2] e pos) (WS C wx kr (sSetF i m C0 f)) := (ps_fld ho he hs).wk fun E σ H w => by
  obtain ⟨F, B, n, ds, S, h⟩ := w
  refine ⟨F, B, n, ds, S, (wsl_e (R := RV C .fz k) S h).mono fun v H1 ⟨F1, n1, d, G1, S1, ⟨A1, r1, f1⟩, h1⟩ => ?_⟩
  unfold WSL at h1
  cases hd : ds[i]? with
  | none => simp only [hd] at h1
  | some x =>
    cases x with
    | none => simp only [hd] at h1
    | some d0 =>
      cases d0 with
      | obj C1 fds =>
        simp only [hd] at h1
        by_cases hc : C1 = C0 ∧ fds.length < 1000
        · simp only [if_pos hc] at h1
          obtain ⟨hC, hl⟩ := hc
          subst hC
          obtain ⟨p, Ae, N⟩ := S1.node hd (π := .nil) rfl rfl (k := k) (by rw [hT]; simp [Pth.len])
          obtain ⟨v0, hv0, hp⟩ := N.pv
          have hp : v0 = .ref p := hp
          subst hp
          obtain ⟨dx, fs, h2, h3, mu⟩ := N.obj
          obtain ⟨g1, g2⟩ := fresh_ok S f1
          obtain ⟨B', b1, S4⟩ := mu f v d A1 r1 fun a ha => ⟨(g1 a ha).1, (g1 a ha).2.1, g2 a ha, (g1 a ha).2.2⟩
          rw [hK]
          exact ⟨_, hv0, p, C1, dx, fs, rfl, h2, hcl, hn, by rw [h3]; exact hl, h1 σ F1 B' _ (N.goS S G1 S1 fun a ha => (b1 a ha).imp id fun z => (f1 a z).1) S4⟩
        · simp only [if_neg hc] at h1
      | _ => simp only [hd] at h1
end
end GW

/-! more operators, objects made -/
namespace GW
open PySem L2 PyProof.Rows
/-! ### list + list -/
def rCatS (K : PySem.W.Frag) : R2 := fun x y H Q => ∃ l b xs zs, x = .ref l ∧ y = .ref b ∧ SqL K H l xs ∧ SqL K H b zs ∧ xs.length + zs.length ≤ sizeLine ∧ ∀ p, H p = none → Q (.ref p) (upd H p (.lst (xs ++ zs)))
theorem op_catS {X : Cx} : OpR X (binaryOp .Add) (rCatS X.K) := by
  intro pins s σ H x y v u Q I rx ry h
  obtain ⟨l, b, xs, zs, rfl, rfl, hH, hB, hz, q⟩ := h
  cases rx
  cases ry
  obtain ⟨its, r, p1, _⟩ := I.list hH
  obtain ⟨its2, r2, p2, _⟩ := I.list hB
  have l1 := r.length
  have l2 := r2.length
  obtain ⟨⟨cls, dd, data, sl⟩, n, ho, hc, _, hd⟩ := id p1
  obtain ⟨⟨cls2, dd2, data2, sl2⟩, n2, ho2, hc2, _, hd2⟩ := id p2
  simp only at hc hd hc2 hd2
  subst hc hd hc2 hd2
  refine concat_meets ⟨_, ho, rfl⟩ ⟨_, ho2, rfl⟩ noFill_list_add seq_list_add PySem.F.slot_list_add PySem.F.entry_list_add (PySem.F.args_list_add_2 _ _) (list_addW l b its.toArray its2.toArray n n2 dd dd2 sl sl2 (by rw [List.size_toArray, List.size_toArray]; omega)) ⟨ho, ho2, ?_⟩
  have ea : its.toArray ++ its2.toArray = (its ++ its2).toArray := by simp
  rw [ea]
  exact ⟨.ref _, _, I.lnew (t' := s.toks) (r.append r2) (by rw [List.length_append]; omega), rfl, q _ I.fresh⟩
def oCat : D → D → Option D
  | .lst as, .lst bs => if as.length + bs.length ≤ 16777216 then some (.lst (as ++ bs)) else none
  | _, _ => none
section
variable {X : Cx} {C : Ctx} {wx : WX} {g : Rg} {kr k : Nat} {o a b e : Expr} {es : List Expr} {pos : Pos} {m ma mc : M} {ms : Mo (List D)} {mp : Mo Pth}
theorem ve_cat (ha : PE X a (W C wx .fz 0 ma)) (hb : PE X b (W C wx .fz 0 mc)) (hK : X.K = C.K := by rfl) : PE X (.BinOp a .Add b pos) (W C wx .fz 1 (m2 ma mc oCat)) :=
  (pe_op (r := rCatS C.K) (by rw [← hK]; exact op_catS) ha hb).wk fun σ H Q w => by
  obtain ⟨F, B, n, ds, S, h⟩ := w
  refine ⟨F, B, n, ds, S, (h.bind fun F1 H1 F2 H2 v d G r => r.tr G).mono fun x H1 ⟨F1, n1, da, G1, S1, ⟨A1, r1, f1⟩, h1⟩ => ?_⟩
  refine ⟨F1, B, n1, ds, S1, (h1.bind fun F1 H1 F2 H2 v d G r => r.tr G).mono fun y H2 ⟨F2, n2, db, G2, S2, ⟨A2, r2, f2⟩, h2⟩ => ?_⟩
  obtain ⟨d, e, q⟩ := h2.retE
  have r1' : Rp C.K F2 H2 0 x da (fun _ => False) := Rp.go0 (g := .fz) r1 G2
  unfold oCat at e
  split at e
  · rename_i as bs
    split at e
    · rename_i hl
      cases e
      cases r1' with
      | @lst _ p1 vs1 _ hh1 l1 c1 =>
        cases r2 with
        | @lst _ p2 vs2 _ hh2 l2 c2 =>
          refine ⟨p1, p2, vs1, vs2, rfl, rfl, sqL_mono hh1 S2.fh, sqL_mono hh2 S2.fh, by rw [sizeLine_eq, l1, l2]; exact hl, fun p hp => ?_⟩
          obtain ⟨G3, S3⟩ := S2.newO (o := .lst (vs1 ++ vs2)) hp
          have R := RpL.append (K := C.K) (G := F2) (H := H2) (vs := vs1) (ws := vs2) ⟨l1, fun i v d a b => (c1 i v d a b).z⟩ ⟨l2, fun i v d a b => (c2 i v d a b).z⟩
          exact q (.ref p) F2 _ G3 S3 ⟨fun a => a = p, .lstO (fun _ _ => False) upd_same rfl R.1 (fun i v d a b => Rp.go0 (g := .fz) (R.2 i v d a b) G3) (fun _ _ h => h.elim) (fun _ _ _ h => h.elim), Fr.one S2.fh hp rfl⟩
    · cases e
  · cases e
/-! ### in, not in -/
/-- a sign in a text -/
def oInS (neg : Bool) : D → D → Option D
  | .str x, .str z => if x.cps.size = 1 then some (.bl (neg ^^ decide (x.cps.getD 0 0 ∈ z.cps.toList))) else none
  | _, _ => none
theorem one_cps {x : Str} (h : x.cps.size = 1) : x = ⟨#[x.cps.getD 0 0]⟩ := by
  obtain ⟨c⟩ := x
  have h : c.size = 1 := h
  congr 1
  apply Array.ext
  · simpa using h
  · intro i h1 h2
    have : i = 0 := by omega
    subst this
    simp [Array.getD, h]
theorem os_inS {K : PySem.W.Frag} : OpS K (fun x y H Q => ∃ (c : Nat) (z : Str), x = .str ⟨#[c]⟩ ∧ y = .str z ∧ Q (.bl (decide (c ∈ z.cps.toList))) H) (oInS false) := by
  intro G H x y a b d A A' hs ra rb e
  unfold oInS at e
  split at e
  · split at e
    · rename_i x z hl
      cases e
      refine ⟨_, rfl, fun Q q => ⟨x.cps.getD 0 0, z, ?_, rb.str_, by simpa using q⟩⟩
      rw [ra.str_]; exact congrArg V.str (one_cps hl)
    · cases e
  · cases e
theorem os_notInS {K : PySem.W.Frag} : OpS K (fun x y H Q => ∃ (c : Nat) (z : Str), x = .str ⟨#[c]⟩ ∧ y = .str z ∧ Q (.bl (!decide (c ∈ z.cps.toList))) H) (oInS true) := by
  intro G H x y a b d A A' hs ra rb e
  unfold oInS at e
  split at e
  · split at e
    · rename_i x z hl
      cases e
      refine ⟨_, rfl, fun Q q => ⟨x.cps.getD 0 0, z, ?_, rb.str_, by simpa using q⟩⟩
      rw [ra.str_]; exact congrArg V.str (one_cps hl)
    · cases e
  · cases e
/-- a scalar in a tuple or list of scalars -/
def scVs : List D → Option (List V)
  | [] => some []
  | d :: r => match scV d, scVs r with
    | some v, some vs => some (v :: vs)
    | _, _ => none
def oInQ (neg : Bool) (a b : D) : Option D := match scV a, b with
  | some x, .lst ds => (scVs ds).map fun vs => .bl (if neg = true then !inV x vs else inV x vs)
  | some x, .tup ds => (scVs ds).map fun vs => .bl (if neg = true then !inV x vs else inV x vs)
  | _, _ => none
theorem scVs_of {K : PySem.W.Frag} {G H : Hp} : ∀ {vs : List V} {ds : List D} {ws : List V}, RpL K G H vs ds → scVs ds = some ws → vs = ws
  | [], [], _, _, e => by cases e; rfl
  | [], _ :: _, _, r, _ => by cases r.1
  | _ :: _, [], _, r, _ => by cases r.1
  | v :: vs, d :: ds, ws, r, e => by
    have r1 := r.2 0 v d rfl rfl
    have r2 : RpL K G H vs ds := ⟨by simpa using r.1, fun i v' d' h1 h2 => r.2 (i + 1) v' d' (by simpa using h1) (by simpa using h2)⟩
    unfold scVs at e
    split at e
    · rename_i h1 h2
      cases e
      rw [r1.sc h1, scVs_of r2 h2]
    · cases e
theorem scV_flat {d : D} {v : V} (h : scV d = some v) : flatV v = true := by
  cases d <;> simp [scV] at h <;> subst h <;> rfl
theorem scVs_flat : ∀ {ds : List D} {vs : List V}, scVs ds = some vs → vs.all flatV = true
  | [], _, e => by cases e; rfl
  | d :: r, ws, e => by
    unfold scVs at e
    split at e
    · rename_i h1 h2
      cases e
      simp [scV_flat h1, scVs_flat h2]
    · cases e
theorem os_inQ {K : PySem.W.Frag} {neg : Bool} : OpS K (rIn K neg) (oInQ neg) := by
  intro G H x y a b d A A' hs ra rb e
  unfold oInQ at e
  split at e
  · rename_i x' ds hx
    cases hv : scVs ds with
    | none => rw [hv] at e; cases e
    | some vs =>
      rw [hv] at e; cases e
      have := ra.sc hx
      subst this
      cases rb with
      | lst h l c =>
        have e := scVs_of (K := K) (G := G) (H := H) ⟨l, fun i v d a b => (c i v d a b).z⟩ hv
        subst e
        exact ⟨_, rfl, fun Q q => ⟨_, _, rfl, .inl (sqL_mono h hs), scV_flat hx, scVs_flat hv, q⟩⟩
  · rename_i x' ds hx
    cases hv : scVs ds with
    | none => rw [hv] at e; cases e
    | some vs =>
      rw [hv] at e; cases e
      have := ra.sc hx
      subst this
      cases rb with
      | tup h l c =>
        have e := scVs_of (K := K) (G := G) (H := H) ⟨l, fun i v d a b => (c i v d a b).z⟩ hv
        subst e
        exact ⟨_, rfl, fun Q q => ⟨_, _, rfl, .inr h, scV_flat hx, scVs_flat hv, q⟩⟩
  · cases e
/-- a key in a dict -/
def oInD (neg : Bool) (a b : D) : Option D := match keyD a, b with
  | some k, .dct kds => some (.bl (neg ^^ (valD kds k).isSome))
  | _, _ => none
theorem val_some {kvs : List (Key × V)} {kds : List (Key × D)} (h : kvs.map (·.1) = kds.map (·.1)) (k : Key) : (valV kvs k).isSome = (valD kds k).isSome := by
  rw [← valV_any]
  have : (valD kds k).isSome = (kds.any fun kv => decide (kv.1 = k)) := by
    unfold valD
    rw [Option.isSome_map, Bool.eq_iff_iff, List.find?_isSome, List.any_eq_true]
  rw [this, any_keys h]
theorem dIn_of {neg : Bool} {σ : L2.St} {H : Hp} {Q : VK} (w : W C wx g k (m2 ma mc (oInD neg)) σ H Q) : W C wx .bo 0 ma σ H fun y H1 => W C wx .bo 0 mc σ H1 fun x H2 => ∃ a o, x = .ref a ∧ DGet H2 a y o ∧ Q (.bl (neg ^^ o.isSome)) H2 := by
  obtain ⟨F, B, n, ds, S, h⟩ := w
  refine ⟨F, B, n, ds, S, (h.bind fun F1 H1 F2 H2 v d G r => r.tr G).mono fun y H1 ⟨F1, n1, da, G1, S1, ⟨A1, r1, f1⟩, h1⟩ => ?_⟩
  refine ⟨F1, B, n1, ds, S1, (h1.bind fun F1 H1 F2 H2 v d G r => r.tr G).mono fun x H2 ⟨F2, n2, db, G2, S2, ⟨A2, r2, f2⟩, h2⟩ => ?_⟩
  obtain ⟨d, e, q⟩ := h2.retE
  unfold oInD at e
  split at e
  · rename_i key kds hk
    cases e
    have ey := key_rel r1 hk
    subst ey
    cases r2 with
    | @dct _ p kvs _ hh l c =>
      refine ⟨p, valV kvs key, rfl, .inl ⟨kvs, key, .inl (rg_same (g := .bo) S2.fh _ _ hh), rfl, rfl⟩, ?_⟩
      rw [val_some l]
      exact q _ F2 H2 (GoC.refl S2.fh) S2 ⟨fun _ => False, .bl, Fr.no⟩
  · cases e
theorem ve_din (hu : X.A.units + 1 < cLine) (ha : PE X a (W C wx .bo 0 ma)) (hb : PE X b (W C wx .bo 0 mc)) (h1 : behindInMarks .In b = false := by first | exact nobehind _ (by decide) (by decide) | rfl) : PE X (.Compare a [.In] [b] pos) (W C wx g k (m2 ma mc (oInD false))) :=
  (pe_cmp (pc_din hu ha hb) h1).wk fun σ H Q w => by have z := dIn_of w; simp only [Bool.false_xor] at z; exact z
theorem vt_din (hu : X.A.units + 1 < cLine) (ha : PE X a (W C wx .bo 0 ma)) (hb : PE X b (W C wx .bo 0 mc)) (h1 : behindInMarks .In b = false := by first | exact nobehind _ (by decide) (by decide) | rfl) : PT X (.Compare a [.In] [b] pos) (WT C wx (mTest (m2 ma mc (oInD false)))) :=
  (pt_cmp (pc_din hu ha hb) h1).wk fun σ H Q w => tB_of (t := fun σ H Q => tDIn (W C wx .bo 0 ma) (W C wx .bo 0 mc) σ H Q) (fun _ _ _ z => by have z := dIn_of z; simp only [Bool.false_xor] at z; exact z) w
end
end GW

/-! what is told does not lean on what was handed in; objects are made -/
namespace GW
open PySem L2 PyProof.Rows
def closedD : Nat → D → Bool
  | k + 1, .lst ds => ds.all (closedD k)
  | _ + 1, .dct kvs => kvs.all fun p => flat p.2
  | k + 1, .obj _ fs => fs.all fun p => closedD k p.2
  | _, d => flat d
theorem closed_flat {k : Nat} {d : D} (h : closedD k d = true) (hc : isCon d = false) : flat d = true := by
  cases k <;> cases d <;> first | exact h | cases hc
theorem Rp.closed {K : PySem.W.Frag} {F H : Hp} {k : Nat} {v : V} {d : D} {A : AS} (r : Rp K F H k v d A) (h : closedD k d = true) (F' : Hp) : Rp K F' H k v d A := by
  induction r with
  | non => exact .non
  | bl => exact .bl
  | int => exact .int
  | str => exact .str
  | @tup k _ _ _ _ hh l c ih =>
    have hf := closed_flat h rfl
    simp only [flat] at hf
    exact .tup hh l fun i v d a b => (c i v d a b).flat_any (flats_get hf b) _ _ _
  | lst => cases h
  | lstO As hh hA l c s dj ih =>
    simp only [closedD, List.all_eq_true] at h
    exact .lstO As hh hA l (fun i v d a b => ih i v d a b (h d (List.mem_of_getElem? b))) s dj
  | dct => cases h
  | @dctO k _ p kvs kds hh hA l c ih =>
    simp only [closedD, List.all_eq_true] at h
    exact .dctO hh hA l fun i v d a b => (c i v d a b).flat_any (by
      rw [List.getElem?_map] at b
      cases e : kds[i]? with
      | none => rw [e] at b; cases b
      | some x => rw [e] at b; cases b; exact h x (List.mem_of_getElem? e)) _ _ _
  | obj => cases h
  | @objO k _ p C dx fs fds As hh hA l c s dj ih =>
    simp only [closedD, List.all_eq_true] at h
    exact .objO As hh hA l (fun i v d a b => ih i v d a b (by
      rw [List.getElem?_map] at b
      cases e : fds[i]? with
      | none => rw [e] at b; cases b
      | some x => rw [e] at b; cases b; exact h x (List.mem_of_getElem? e))) s dj
  | @err k => cases k <;> cases h
def mClosed (k : Nat) (m : M) : M := fun n ds => match m n ds with
  | some (.ok d, n') => if closedD k d = true then some (.ok d, n') else none
  | r => r
def RCl (C : Ctx) (k : Nat) : Hp → Hp → Hp → V → D → Prop := fun H F' H' v d => ∃ G' A, Rp C.K G' H' k v d A ∧ Fr F' H H' A
theorem WL.closed {C : Ctx} {wx : WX} {k : Nat} {m : M} {F : Hp} {B : AS} {n : Int} {ds : DS} {σ : L2.St} {H : Hp} {Q : VK} (h : WL C wx (RV C .fz k) (mClosed k m) F B n ds σ H Q) : WL C wx (RCl C k) m F B n ds σ H Q := by
  unfold WL at h ⊢
  unfold mClosed at h
  cases e : m n ds with
  | none => simp only [e] at h
  | some pp =>
    obtain ⟨o, n'⟩ := pp
    cases o with
    | ex c fs => simp only [e] at h; exact h
    | ok d =>
      simp only [e] at h
      by_cases hf : closedD k d = true
      · simp only [if_pos hf] at h
        rintro v F' H' G S ⟨G', A, r, f⟩
        exact h v F' H' G S ⟨A, r.closed hf _, f⟩
      · simp only [if_neg hf] at h
section
variable {X : Cx} {C : Ctx} {wx : WX} {g : Rg} {k kk kr np : Nat} {x : Str} {p pos : Pos} {e : Expr} {es : List Expr} {ps : List Str} {fm : FM} {ci : Option Nat} {ms : Mo (List D)}
/-- the things handed in are one's own; what is told is new -/
theorem ve_callAc (F : Av X.prog X.w X.K X.mg X.base x ps kk (spM C.K ci np kr fm)) (hp : ci = none → ∃ f, fm = pureF f) (hr : Room kk X.A) (tk : Takes X wx)
    (ha : PA X (e :: es) (WAc C wx .bo ci ms)) (hlen : LenM ms np) (hg : Gl X x := by rfl) (hdb : (x == ("__debug__" : Str)) = false := by decide) (he : starEach (e :: es) X.env = (false, eval e X.env) :: starEach es X.env := by rfl) (hpl : (backTo pos (starEach es X.env)).any (·.1) = false := by rfl) :
    PE X (.Call (.Name x p) (e :: es) [] pos) (W C wx .fz kr (mClosed kr (mCall fm ms))) := by
  obtain ⟨f, fd, hm, hk, hbd, Ff⟩ := F.ex
  refine (pe_callS Ff hr hg hm hk hbd (fun σ => passAt tk σ) ha hdb he hpl).wk fun σ H Q w => ?_
  obtain ⟨F, B, n, ds, S, h⟩ := w
  refine ⟨F, B, n, ds, S, WL.strong hlen ((h.closed.bind (R := fun H F' H' vs as => RAc C .bo ci H F' H' vs as ∧ as.length = np) fun F1 H1 F2 H2 v d G ⟨G', A, r, f⟩ => ⟨G', A, r, fun a ha => ⟨none_some G.dm (f a ha).1, (f a ha).2⟩⟩).mono fun vs H1 ⟨F2, n2, d2, G2, S2, ⟨r2, hl⟩, h2⟩ => ?_)⟩
  exact spM_of (RR := RCl C kr) hp S2 r2 hl (fun d v F' H' G r h => by cases h) (fun d v F3 H' _ G ⟨A, r, f⟩ => ⟨F3, A, r, fun a ha => ⟨(f a ha).1, none_some (fun b o e => ⟨o, S2.fh b o e⟩) (f a ha).1, (f a ha).2.2⟩⟩) h2
end
/-! ### objects -/
/-- what __init__ promises: the new thing's fields -/
def spI (K : PySem.W.Frag) (C0 : Addr) (np kr : Nat) (f : List D → Option (Ot D)) : Sp := fun vs H Q E => vs.length = np + 1 ∧ ∃ (F : Hp) (x dx : Addr) (ws : List V) (ds : List D), vs = .ref x :: ws ∧ Same F H ∧ H x = some (.ins C0 dx []) ∧ F x = none ∧ RpL K F H ws ds ∧
  match f ds with
  | none => False
  | some (.ok d) => ∀ F' H' A, GoC (some x) F H F' H' → Rp K F' H' kr (.ref x) d A → (∀ a, A a → (a = x ∨ H a = none) ∧ F' a = none ∧ ∃ o, H' a = some o ∧ Mk o = true) → Q .non H'
  | some (.ex c fs) => ∀ F' H' od, GoC (some x) F H F' H' → ExR H H' od fs → E (.ref (ec K c)) od H'
/-- a class that stands to be called -/
structure AvC (P : Program) (w : World) (K : PySem.W.Frag) (mg : Str → Option Value) (base : Heap) (x : Str) (C0 : Addr) (ps : List Str) (k : Nat) (sp : Sp) : Prop where
  ex : ∃ (f : Addr) (fd : FuncData), mg x = some (.ref C0) ∧ L2.Mk K C0 f ∧ Binds K fd ps [] ∧ FnOk P w K mg base (L2.CX P w) k f fd ps sp
def tMakeS (C : Addr) (sp : Sp) (E : L2.St → XK) (t : TA) : TE := fun σ H Q => t σ H fun vs H1 => ∀ x dx, H1 x = none → H1 dx = none → dx ≠ x → sp (.ref x :: vs) (upd (upd H1 dx (.own x)) x (.ins C dx [])) (fun v H2 => v = .non ∧ Q (.ref x) H2) (E σ)
theorem pe_makeS {X : Cx} {CX : CXT} {k : Nat} {f C : Addr} {fd : FuncData} {ps : List Str} {sp : Sp} {E : L2.St → XK} {x : Str} {p pos : Pos} {e : Expr} {es : List Expr} {t : TA} (M : L2.Mk X.K C f) (F : FnOk X.prog X.w X.K X.mg X.base CX k f fd ps sp) (hr : Room (k + 1) X.A) (hg : Gl X x) (hm : X.mg x = some (.ref C)) (hb : Binds X.K fd ps []) (hx : ∀ σ, PassesAt CX X σ (E σ))
    (ha : PA X (e :: es) t) (hdb : (x == ("__debug__" : Str)) = false := by decide) (he : starEach (e :: es) X.env = (false, eval e X.env) :: starEach es X.env := by rfl) (hpl : (backTo pos (starEach es X.env)).any (·.1) = false := by rfl) :
    PE X (.Call (.Name x p) (e :: es) [] pos) (tMakeS C sp E t) := by
  refine ⟨fun pins s σ H Q I h => ?_⟩
  refine wpAny_Call_Name_kw (ld_glob I hg hm ?_ hdb)
  refine PySem.W.callWith_K (h₀ := X.base) I.ok.mod.kin M.kp (thn (ha.run pos pins s σ H _ I h) fun us s ⟨vs, H, I, r, h⟩ => ⟨I.kIn, ?_⟩) he hpl
  have hq := h (s.heap.objs.size + 1) s.heap.objs.size (I.hok.fresh (Nat.le_succ _)) (I.hok.fresh (Nat.le_refl _)) (Nat.ne_of_lt (Nat.lt_succ_self _))
  have I2 := Inv.made (C := C) I
  have r2 : Vals (V.ref (s.heap.objs.size + 1) :: vs) (Value.ref (s.heap.objs.size + 1) :: us) := .cons rfl r
  have hl : (Value.ref (s.heap.objs.size + 1) :: us ++ []).length = ps.length := by
    have e := r2.length
    rw [F.len _ _ _ _ hq] at e
    rw [List.append_nil]; exact e.symm
  have hbb := hb _ (Value.ref (s.heap.objs.size + 1) :: us) I2.kIn hl
  rw [List.append_nil] at hbb
  refine wpAny_call (make_map (f := f) I.kIn M.makes M.init (beq_iff_eq.mp M.fn) (codeAny_mono (F.run _ X.stack _ _ ⟨Value.ref (s.heap.objs.size + 1) :: us, []⟩ (Value.ref (s.heap.objs.size + 1) :: us) _ _ (E σ) (hr.make C us [])
    (I2.env0.make C us []) hbb r2 hq) fun r s' hq' => ?_))
  cases r with
  | error e => exact hx σ pins _ _ e s' I2 hq'
  | ok fl =>
    cases fl with
    | ret u =>
      obtain ⟨v, H', I3, rv, ev, q3⟩ := I2.after hq'
      subst ev
      exact ⟨rv, ⟨V.ref (s.heap.objs.size + 1), H', I3, rfl, q3⟩⟩
    | next => exact False.elim hq'
    | brk => exact False.elim hq'
    | cont => exact False.elim hq'
section
variable {X : Cx} {C : Ctx} {wx : WX} {g : Rg} {k kk kr np : Nat} {x : Str} {p pos : Pos} {e : Expr} {es : List Expr} {ps : List Str} {ms : Mo (List D)} {f : List D → Option (Ot D)} {C0 : Addr}
/-- the new instance ahead of its __init__ -/
theorem made_step {q : Option Addr} {F H F' H' : Hp} {x dx : Addr} {o : HO} (fh : Same F H) (hx : H x = none) (hdx : H dx = none) (hne : dx ≠ x) (G : GoC (some x) F (upd (upd H dx (.own x)) x o) F' H') : GoC q F H F' H' := by
  have old : ∀ a u, H a = some u → upd (upd H dx (.own x)) x o a = some u ∧ a ≠ x := fun a u e => by
    have n1 := ne_of_none e hx
    have n2 := ne_of_none e hdx
    exact ⟨by rw [upd_ne n1, upd_ne n2]; exact e, n1⟩
  exact ⟨⟨G.go.ff, G.go.fh, fun a u e _ => G.go.hh a u (old a u e).1 (fun z => (old a u e).2 (by injection z with z; exact z.symm)), fun a u e hm => G.go.ht a u (old a u e).1 hm, fun a u n e => G.go.nf a u n (old a u e).1⟩, fun a u e => G.dm a u (old a u e).1⟩
/-- X(..): the things handed in stand (g = fz), or are read now and what is made is new (bo) -/
theorem make_of {RR : Hp → Hp → Hp → V → D → Prop} {F : Hp} {B : AS} {n : Int} {ds : DS} {σ : L2.St} {H : Hp} {vs : List V} {as : List D} {Q : VK} (S : Sim C F B σ H n ds) (G0 : Hp) (gs : Same G0 H) (r : RpL C.K G0 H vs as) (hl : as.length = np)
    (step : ∀ F' H', GoC none G0 H F' H' → ∃ F1, GoC C.q F H F1 H' ∧ Sim C F1 B σ H' n ds ∧ ∀ d v A, Rp C.K F' H' kr v d A → Fr F' H H' A → RR H F1 H' v d) (w : WL C wx RR (fun n _ => pureF f n as) F B n ds σ H Q) :
    ∀ x dx, H x = none → H dx = none → dx ≠ x → spI C.K C0 np kr f (.ref x :: vs) (upd (upd H dx (.own x)) x (.ins C0 dx [])) (fun v H2 => v = .non ∧ Q (.ref x) H2) (WE wx σ) := by
  intro x dx hx hdx hne
  have hup : ∀ a u, H a = some u → upd (upd H dx (.own x)) x (.ins C0 dx []) a = some u := fun a u e => by rw [upd_ne (ne_of_none e hx), upd_ne (ne_of_none e hdx)]; exact e
  refine ⟨by rw [List.length_cons, r.1, hl], G0, x, dx, vs, as, rfl, fun a u e => hup a u (gs a u e), upd_same, none_some (fun a o e => ⟨o, gs a o e⟩) hx, ⟨r.1, fun i v d a b => (r.2 i v d a b).mono (Same.refl _) (fun a u e _ => hup a u e) fun _ _ h => h.elim⟩, ?_⟩
  unfold WL pureF at w
  cases e : f as with
  | none => simp only [e, Option.map_none] at w
  | some o =>
    cases o with
    | ok d =>
      simp only [e, Option.map_some] at w
      intro F' H' A G rr fA
      have G1 := made_step (q := none) gs hx hdx hne G
      obtain ⟨F1, G2, S2, hR⟩ := step F' H' G1
      exact ⟨rfl, w _ F1 H' G2 S2 (hR d _ A rr fun a ha => ⟨(fA a ha).1.elim (fun z => by rw [z]; exact hx) fun z => none_some (fun b u e => ⟨u, hup b u e⟩) z, (fA a ha).2⟩)⟩
    | ex c fs =>
      simp only [e, Option.map_some] at w
      intro F' H' od G xr
      obtain ⟨F1, G2, S2, _⟩ := step F' H' (made_step (q := none) gs hx hdx hne G)
      exact w F1 H' od G2 S2 (Or.imp id (fun ⟨d, h1, h2, h3⟩ => ⟨d, h1, none_some (fun b u e => ⟨u, hup b u e⟩) h2, h3⟩) xr)
theorem ve_make (F : AvC X.prog X.w X.K X.mg X.base x C0 ps kk (spI C.K C0 np kr f)) (hr : Room (kk + 1) X.A) (tk : Takes X wx) (ha : PA X (e :: es) (WA C wx .fz ms)) (hlen : LenM ms np) (hg : Gl X x := by rfl) (hdb : (x == ("__debug__" : Str)) = false := by decide) (he : starEach (e :: es) X.env = (false, eval e X.env) :: starEach es X.env := by rfl) (hpl : (backTo pos (starEach es X.env)).any (·.1) = false := by rfl) :
    PE X (.Call (.Name x p) (e :: es) [] pos) (W C wx .fz kr (mCall (pureF f) ms)) := by
  obtain ⟨fa, fd, hm, hk, hbd, Ff⟩ := F.ex
  refine (pe_makeS hk Ff hr hg hm hbd (fun σ => passAt tk σ) ha hdb he hpl).wk fun σ H Q w => ?_
  obtain ⟨F, B, n, ds, S, h⟩ := w
  refine ⟨F, B, n, ds, S, WL.strong hlen ((h.bind (R := fun H F' H' vs as => RA C .fz H F' H' vs as ∧ as.length = np) fun F1 H1 F2 H2 v d G r => r.tr G).mono fun vs H1 ⟨F2, n2, d2, G2, S2, ⟨r2, hl⟩, h2⟩ => ?_)⟩
  exact make_of S2 F2 S2.fh r2 hl (fun F' H' G => ⟨F', GoC.of0 G, S2.go0 G, fun d v A r f => ⟨A, r, f⟩⟩) h2
theorem ve_makec (F : AvC X.prog X.w X.K X.mg X.base x C0 ps kk (spI C.K C0 np kr f)) (hr : Room (kk + 1) X.A) (tk : Takes X wx) (ha : PA X (e :: es) (WA C wx .bo ms)) (hlen : LenM ms np) (hg : Gl X x := by rfl) (hdb : (x == ("__debug__" : Str)) = false := by decide) (he : starEach (e :: es) X.env = (false, eval e X.env) :: starEach es X.env := by rfl) (hpl : (backTo pos (starEach es X.env)).any (·.1) = false := by rfl) :
    PE X (.Call (.Name x p) (e :: es) [] pos) (W C wx .fz kr (mClosed kr (mCall (pureF f) ms))) := by
  obtain ⟨fa, fd, hm, hk, hbd, Ff⟩ := F.ex
  refine (pe_makeS hk Ff hr hg hm hbd (fun σ => passAt tk σ) ha hdb he hpl).wk fun σ H Q w => ?_
  obtain ⟨F, B, n, ds, S, h⟩ := w
  refine ⟨F, B, n, ds, S, WL.strong hlen ((h.closed.bind (R := fun H F' H' vs as => RA C .bo H F' H' vs as ∧ as.length = np) fun F1 H1 F2 H2 v d G ⟨G', A, r, f⟩ => ⟨G', A, r, fun a ha => ⟨none_some G.dm (f a ha).1, (f a ha).2⟩⟩).mono fun vs H1 ⟨F2, n2, d2, G2, S2, ⟨r2, hl⟩, h2⟩ => ?_)⟩
  refine make_of (RR := RCl C kr) S2 (rg C.q .bo F2 H1) (rg_same S2.fh) r2 hl (fun F' H' G => ?_) h2
  have G' : GoC C.q F2 H1 F2 H' := ⟨⟨Same.refl _, fun a o e => G.go.hh a o (S2.fh a o e) (by simp), fun a o e _ => G.go.hh a o e (by simp), G.go.ht, fun a o n _ => n⟩, G.dm⟩
  exact ⟨F2, G', S2.go G' fun q hq => G.go.hh q _ (S2.cell q hq).2 (by simp), fun d v A r f => ⟨F', A, r, fun a ha => ⟨(f a ha).1, none_some (fun b o e => ⟨o, S2.fh b o e⟩) (f a ha).1, (f a ha).2.2⟩⟩⟩
end
end GW

namespace GW
open PySem L2 PyProof.Rows
/-! ### __init__ -/
def startI (C0 : Addr) (N : Nat) (as : List D) : DS := some (.obj C0 []) :: (as.map some ++ List.replicate (N - 1 - as.length) none)
def outI : Option (Fl × Int × DS) → Option (Ot D)
  | some (.nx, _, some (.obj C fs) :: _) => some (.ok (.obj C fs))
  | some (.ex c fs, _, some (.obj _ _) :: _) => some (.ex c fs)
  | _ => none
def fnI (C0 : Addr) (N : Nat) (ms : MS) : List D → Option (Ot D) := fun as => outI (ms 0 (startI C0 N as))
section
variable {P : Program} {w : World} {K : PySem.W.Frag} {mg : Str → Option Value} {base : Heap}
theorem def_okI {x qual : Str} {params : Arguments} {body : List Stmt} {scope : Scope} {dvs : List V} {kws : List (Str × V)} {f : Addr} {fd : FuncData} {N ps : List Str} {k kr np : Nat} {T : Nat → Nat} {ms : MS} (C0 : Addr) (Fu : FunD K x qual params body scope dvs kws f fd) (S : FnScope N ps scope) (hps : ps.length = np + 1) (hN : np + 1 ≤ N.length) (hT0 : T 0 = kr + 1) (hT : ∀ i, i < np → T (i + 1) = 0)
    (hb : ∀ (cdv : Value) (A : Around) (outer : List Env) (s : Shared) (H : Hp) (E : XK) (a : Addr), Room k (A.deeper (envOfC qual scope s.heap.objs.size f cdv)) →
      PSs (cxOf (L2.CX P w) P w K mg base N qual scope f cdv A outer s H E) body (WS ⟨K, none, T, fun j => if j = 0 then some (.ref a) else none⟩ (fun c d _ H => E c d H) 0 ms)) :
    FnOk P w K mg base (L2.CX P w) (k + 1) f fd ps (spI K C0 np (kr + 1) (fnI C0 N.length ms)) := by
  refine Fu.ok S (fun vs H Q E h => h.1.trans hps.symm) (fun cdv A outer s H vs Q E hr h => ?_)
  obtain ⟨hlen, F, a, dx, ws, as, rfl, fh, hHa, hFa, hrep, hm⟩ := h
  refine ⟨_, hb cdv A outer s H E a hr, F, fun b => b = a, 0, startI C0 N.length as, ?_, ?_⟩
  · have hl : ws.length = as.length := hrep.1
    have hnp : ws.length = np := by simpa using hlen
    refine ⟨fh, fun b hb => by subst hb; exact ⟨hFa, _, hHa, rfl⟩, (fun q hq => by cases hq), fun j v h => ?_, ?_, fun j b => j = 0 ∧ b = a, fun j d e => ?_, fun j b hb => ⟨hb.2, by simp⟩, fun i j b h1 h2 => h1.1.trans h2.1.symm⟩
    · by_cases hj : j = 0
      · subst hj
        simp only [if_true, Option.some.injEq] at h
        subst h
        unfold L2.start
        simp
      · simp only [if_neg hj] at h; cases h
    · unfold L2.start startI
      simp only [List.length_append, List.length_map, List.length_replicate, List.length_cons]
      omega
    · cases j with
      | zero =>
        unfold startI at e
        simp only [List.getElem?_cons_zero, Option.some.injEq] at e
        subst e
        refine ⟨.ref a, by unfold L2.start; simp, ?_⟩
        show Rp K F H (T 0) _ _ _
        rw [hT0]
        exact .objO (fun _ _ => False) hHa ⟨rfl, rfl⟩ rfl (fun i v d a b => by simp at a) (fun _ _ h => h.elim) (fun _ _ _ h => h.elim)
      | succ j =>
        unfold startI at e
        simp only [List.getElem?_cons_succ] at e
        by_cases h : j < as.length
        · rw [List.getElem?_append_left (by simpa using h), List.getElem?_map] at e
          cases h2 : as[j]? with
          | none => rw [h2] at e; cases e
          | some x =>
            rw [h2] at e; cases e
            obtain ⟨v, hv⟩ := get_of hl h2
            refine ⟨v, ?_, ?_⟩
            · unfold L2.start
              rw [List.getElem?_append_left (by simp; omega), List.getElem?_map, List.getElem?_cons_succ, hv]; rfl
            · show Rp K F H (T (j + 1)) _ _ _
              rw [hT j (by omega)]
              exact (hrep.2 j v _ hv h2).z
        · rw [List.getElem?_append_right (by simpa using h), List.getElem?_replicate] at e
          split at e <;> cases e
  · have go : ∀ {B' : AS} {F' H' : Hp} {σ' : L2.St} {n' : Int} {C1 : Addr} {fs : List (Str × D)} {r : DS}, GoS (fun b => b = a) F H B' F' H' → Sim ⟨K, none, T, fun j => if j = 0 then some (.ref a) else none⟩ F' B' σ' H' n' (some (.obj C1 fs) :: r) →
        GoC (some a) F H F' H' ∧ ∃ A, Rp K F' H' (kr + 1) (.ref a) (.obj C1 fs) A ∧ ∀ b, A b → (b = a ∨ H b = none) ∧ F' b = none ∧ ∃ o, H' b = some o ∧ Mk o = true := fun {B' F' H' σ' n' C1 fs r} G S' => by
      obtain ⟨A, h1, h2, h3⟩ := S'.rep
      obtain ⟨v, hv, rp⟩ := h1 0 (.obj C1 fs) (by simp)
      have hpin := S'.pin 0 (.ref a) (by simp)
      rw [hv] at hpin
      cases hpin
      have rp : Rp K F' H' (T 0) (.ref a) (.obj C1 fs) (A 0) := rp
      rw [hT0] at rp
      have ha : A 0 a := by
        cases rp with
        | objO As h hA => exact hA
      have hB := (h2 0 a ha).1
      refine ⟨⟨⟨G.ff, G.fh, fun b o e hne => G.hh b o e fun z => hne (by rw [z]), G.ht, fun b o n e => ?_⟩, G.dm⟩, A 0, rp, fun b hb => ⟨G.bb b (h2 0 b hb).1, S'.bok b (h2 0 b hb).1⟩⟩
      by_cases hba : b = a
      · rw [hba]; exact (S'.bok a hB).1
      · exact G.nf b o n e hba
    unfold fnI at hm
    unfold WSL
    cases e : ms 0 (startI C0 N.length as) with
    | none => simp only [e, outI] at hm
    | some pp =>
      obtain ⟨fl, n', ds'⟩ := pp
      match fl, ds', e with
      | .nx, [], e => simp only [e, outI] at hm
      | .nx, none :: r, e => simp only [e, outI] at hm
      | .nx, some d :: r, e =>
        cases d with
        | obj C1 fs =>
          simp only [e, outI] at hm
          exact fun σ' F' B' H' G S' => by
            obtain ⟨G1, A, rp, hA⟩ := go G S'
            exact hm F' H' A G1 rp hA
        | _ => simp only [e, outI] at hm
      | .ex c xs, [], e => simp only [e, outI] at hm
      | .ex c xs, none :: r, e => simp only [e, outI] at hm
      | .ex c xs, some d :: r, e =>
        cases d with
        | obj C1 fs =>
          simp only [e, outI] at hm
          exact fun σ' F' B' H' od G S' xr => hm F' H' od (go G S').1 xr
        | _ => simp only [e, outI] at hm
      | .bk, ds', e => simp only [e, outI] at hm
      | .ct, ds', e => simp only [e, outI] at hm
      | .rt d, ds', e => simp only [e, outI] at hm
end
end GW

namespace GW
open PySem L2 PyProof.Rows
/-! ### a list, a tuple, a text walked -/
def iAny (K : PySem.W.Frag) (te : TE) : TI := fun σ H R => te σ H fun x H1 => (∃ a, x = .ref a ∧ (∃ xs, SqL K H1 a xs) ∧ R (Itl K a) H1) ∨ (∃ a, x = .ref a ∧ (∃ xs, SqT K H1 a xs) ∧ R (Itt K a) H1) ∨ (∃ z, x = .str z ∧ R (Its z) H1)
theorem pi_any {X : Cx} {tg e : Expr} {te : TE} (he : PE X e te) : PI X tg e (iAny X.K te) := by
  refine ⟨fun pins s σ H R I h => ?_⟩
  refine thn (he.run pins s σ H _ I h) fun v s1 ⟨x, H1, I1, r1, q1⟩ => ?_
  rcases q1 with ⟨a, e, ⟨xs, hq⟩, q⟩ | ⟨a, e, ⟨xs, hq⟩, q⟩ | ⟨z, e, q⟩
  · subst e
    cases r1
    obtain ⟨its, rv, p, hz⟩ := I1.list hq
    refine wpAny_pyIter_list p.isList ?_
    refine ⟨s1.heap.objs.size, [s1.heap.objs.size], _, _, H1, rfl, I1.kept (t' := s1.toks) fun b o e => Heap.get?_push_of_some _ e, turn_list a _, ⟨_, Heap.get?_push_size _ rfl, rfl, rfl⟩, fun b hb => ?_, q⟩
    have e : b = s1.heap.objs.size := by simpa using hb
    subst e
    exact I1.fpOk (Nat.le_refl _) (I1.hok.fresh (Nat.le_refl _))
  · subst e
    cases r1
    obtain ⟨its, rv, p, hz⟩ := I1.tuple hq
    refine wpAny_pyIter_tuple (show s1.heap.IsTuple a its.toArray from p) ?_
    refine ⟨s1.heap.objs.size, [s1.heap.objs.size], _, _, H1, rfl, I1.kept (t' := s1.toks) fun b o e => Heap.get?_push_of_some _ e, turn_tuple a _, ⟨_, Heap.get?_push_size _ rfl, rfl, rfl⟩, fun b hb => ?_, q⟩
    have e : b = s1.heap.objs.size := by simpa using hb
    subst e
    exact I1.fpOk (Nat.le_refl _) (I1.hok.fresh (Nat.le_refl _))
  · subst e
    obtain ⟨t, rfl⟩ := r1
    cases ha : z.cps.all (· < 128)
    · exact wpAny_pyIter_wide ha (pi_one (tk := s1.toks) I1 _ (turn_str _ z t "str_iterator" (.inr rfl)) ⟨_, Heap.get?_push_size _ rfl, rfl, rfl⟩ q)
    · exact wpAny_pyIter_ascii ha (pi_one (tk := s1.toks) I1 _ (turn_str _ z t "str_ascii_iterator" (.inl rfl)) ⟨_, Heap.get?_push_size _ rfl, rfl, rfl⟩ q)
def mItA (m : M) : Mo (List D) := mb m fun d => ret (itemsD d)
@[simp] theorem ev_ita {m : M} {n : Int} {ds : DS} : mItA m n ds = mb m (fun d => ret (itemsD d)) n ds := (rfl)
@[simp] theorem ov_itl {ds : List D} : itemsD (.lst ds) = some ds := (rfl)
@[simp] theorem ov_itt {ds : List D} : itemsD (.tup ds) = some ds := (rfl)
@[simp] theorem ov_its {x : Str} : itemsD (.str x) = some (signsD x) := (rfl)
section
variable {X : Cx} {C : Ctx} {wx : WX} {kr k : Nat} {e tg : Expr} {es : List Expr} {p pos : Pos} {m : M} {ms : Mo (List D)}
theorem vi_any (he : PE X e (W C wx .fz 0 m)) (hK : X.K = C.K := by rfl) : PI X tg e (WI C wx (mItA m)) := (pi_any he).wk fun σ H Q w => by
  obtain ⟨F, B, n, ds, S, h⟩ := w
  refine ⟨F, B, n, ds, S, (h.bind fun F1 H1 F2 H2 v d G r => r).mono fun v H1 ⟨F1, n1, d, G1, S1, ⟨A, r1, f⟩, h1⟩ => ?_⟩
  obtain ⟨as, e, q⟩ := h1.retE
  rw [hK]
  cases r1 with
  | @lst A' a vs as' hh l c =>
    cases e
    refine .inl ⟨a, rfl, ⟨vs, sqL_mono hh S1.fh⟩, q _ F1 H1 (GoC.refl S1.fh) S1 fun F' H' L i => ⟨fun d hd => ?_, fun hn0 => ?_⟩⟩
    · have hq : SqL C.K H' a vs := sqL_mono hh (L.ff.trans L.fh)
      obtain ⟨w, hw⟩ := get_of l hd
      refine ⟨⟨vs, _, hq, hw⟩, fun x H'' y => ?_⟩
      obtain ⟨y1, y2⟩ := y
      subst y1
      exact ⟨.inl rfl, (Rp.z (c i x d (y2 vs hq) hd)).mono L.ff L.ht fun _ _ h => h.elim⟩
    · exact ⟨vs, sqL_mono hh (L.ff.trans L.fh), by rw [l]; omega⟩
  | @tup k' A' a vs as' hh l c =>
    cases e
    refine .inr (.inl ⟨a, rfl, ⟨vs, hh⟩, q _ F1 H1 (GoC.refl S1.fh) S1 fun F' H' L i => ⟨fun d hd => ?_, fun hn0 => ?_⟩⟩)
    · have hq : SqT C.K H' a vs := sqT_mono hh L.ht
      obtain ⟨w, hw⟩ := get_of l hd
      refine ⟨⟨vs, _, hq, hw⟩, fun x H'' y => ?_⟩
      obtain ⟨y1, y2⟩ := y
      subst y1
      exact ⟨.inl rfl, (Rp.z (c i x d (y2 vs hq) hd)).mono L.ff L.ht fun _ _ h => h.elim⟩
    · exact ⟨vs, sqT_mono hh L.ht, by rw [l]; omega⟩
  | @str k' A' x =>
    cases e
    refine .inr (.inr ⟨x, rfl, q _ F1 H1 (GoC.refl S1.fh) S1 fun F' H' L i => ⟨fun d hd => ?_, fun hn0 => ?_⟩⟩)
    · unfold signsD at hd
      rw [List.getElem?_map] at hd
      cases hc : x.cps.toList[i]? with
      | none => rw [hc] at hd; cases hd
      | some cc =>
        rw [hc] at hd
        cases hd
        have hlt : i < x.cps.size := by
          have := (List.getElem?_eq_some_iff.mp hc).1
          simpa using this
        refine ⟨hlt, fun v H'' y => ?_⟩
        obtain ⟨y1, c2, y2, y3⟩ := y
        subst y1 y3
        have : c2 = cc := by
          have h3 : x.cps[i]? = some cc := by rw [← Array.getElem?_toList]; exact hc
          rw [h3] at y2; exact (Option.some.inj y2).symm
        subst this
        exact ⟨.inl rfl, .str⟩
    · have : (signsD x).length = x.cps.size := by unfold signsD; simp
      show x.cps.size ≤ i
      omega
  | _ => cases e
end
end GW
namespace GW
open PySem L2
/-- the i-th statement of a class -/
def clsItem : Stmt → Nat → Stmt
  | .ClassDef _ _ _ body .., i => body.getD i (.Pass ⟨0, 0, 0, 0⟩)
  | s, _ => s
end GW

/-! plain tools: places in lists, texts, comprehensions, ranges -/
namespace GW
open PySem L2 PyProof.Rows
/-! ### places -/
@[simp] theorem ixN_nat {n i : Nat} : ixN n (i : Int) = if i < n then some i else none := by
  unfold ixN
  rw [if_pos (by omega)]
  by_cases h : i < n
  · rw [if_pos (by omega), if_pos h]; simp
  · rw [if_neg (by omega), if_neg h]
@[simp] theorem atI_nat {α : Type} {l : List α} {i : Nat} : atI l (i : Int) = l[i]? := by
  unfold atI
  rw [ixN_nat]
  by_cases h : i < l.length
  · rw [if_pos h]; rfl
  · rw [if_neg h, List.getElem?_eq_none (by omega)]; rfl
theorem atI_of {α : Type} {l : List α} {i : Int} (h0 : 0 ≤ i) : atI l i = l[i.toNat]? := by
  obtain ⟨k, rfl⟩ := Int.eq_ofNat_of_zero_le h0
  rw [atI_nat]; rfl
theorem atI_ok {α : Type} {l : List α} {i : Int} (h0 : 0 ≤ i) (h1 : i < l.length) : ∃ a, atI l i = some a ∧ l[i.toNat]? = some a ∧ a ∈ l := by
  rw [atI_of h0]
  have hl : i.toNat < l.length := by omega
  exact ⟨l[i.toNat], by simp [hl], by simp [hl], List.getElem_mem hl⟩
/-! ### ranges -/
theorem rng_len {lo : Int} {n : Nat} : (rngD lo n).length = n := by unfold rngD; simp
theorem rng_get {lo : Int} {n i : Nat} {d : D} (h : (rngD lo n)[i]? = some d) : d = .int (lo + i) ∧ i < n := by
  have hl := (List.getElem?_eq_some_iff.mp h).1
  rw [rng_len] at hl
  unfold rngD at h
  rw [List.getElem?_map, List.getElem?_range hl] at h
  cases h; exact ⟨rfl, hl⟩
theorem r62_nat {n : Nat} (h : n < 4611686018427387904) : r62 (n : Int) = true := r62_of ⟨by omega, by omega⟩
/-- a for over range(n): P ahead of turn i -/
theorem forR_inv {tg : Tg} {body : MS} {N : Nat} (P : Nat → Int → DS → Prop)
    (step : ∀ (i : Nat) n ds, i < N → P i n ds → ∃ ds1, tg.bind (.int i) ds = some ds1 ∧ ∃ n' ds', body n ds1 = some (.nx, n', ds') ∧ P (i + 1) n' ds') {n : Int} {ds : DS} (h : P 0 n ds) : ∃ n' ds', forL tg body (rngD 0 N) n ds = some (.nx, n', ds') ∧ P N n' ds' := by
  obtain ⟨n', ds', h1, h2⟩ := forL_inv (tg := tg) (body := body) (as := rngD 0 N) P (fun i d n ds hi hp => by
    obtain ⟨rfl, hl⟩ := rng_get hi
    rw [Int.zero_add]
    exact step i n ds hl hp) h
  exact ⟨n', ds', h1, by rw [rng_len] at h2; exact h2⟩
/-- a for over a list's items -/
theorem forM_inv {α : Type} {tg : Tg} {body : MS} {f : α → D} {l : List α} (P : Nat → Int → DS → Prop)
    (step : ∀ (i : Nat) a n ds, l[i]? = some a → P i n ds → ∃ ds1, tg.bind (f a) ds = some ds1 ∧ ∃ n' ds', body n ds1 = some (.nx, n', ds') ∧ P (i + 1) n' ds') {n : Int} {ds : DS} (h : P 0 n ds) : ∃ n' ds', forL tg body (l.map f) n ds = some (.nx, n', ds') ∧ P l.length n' ds' := by
  obtain ⟨n', ds', h1, h2⟩ := forL_inv (tg := tg) (body := body) (as := l.map f) P (fun i d n ds hi hp => by
    rw [List.getElem?_map] at hi
    cases e : l[i]? with
    | none => rw [e] at hi; cases hi
    | some a => rw [e] at hi; cases hi; exact step i a n ds e hp) h
  exact ⟨n', ds', h1, by rw [List.length_map] at h2; exact h2⟩
/-! ### comprehensions -/
theorem compL_cnt {tg : Tg} {me : M} {vs : List Nat} {ds : DS} (c : Nat) (Q : D → Prop) (N : Int) : ∀ (as : List D) (step : ∀ d n, d ∈ as → 0 ≤ n → n + c ≤ N → ∃ ds1 y, tg.bind d (wipeD ds vs) = some ds1 ∧ me n ds1 = some (.ok y, n + c) ∧ Q y) (n : Int), 0 ≤ n → n + c * as.length ≤ N →
    ∃ ys, compL tg mYes me vs as n ds = some (.ok ys, n + c * as.length) ∧ ys.length = as.length ∧ ∀ y ∈ ys, Q y
  | [], _, n, _, _ => ⟨[], by simp [compL, ret], rfl, fun y h => by cases h⟩
  | d :: r, step, n, h0, hN => by
    rw [List.length_cons] at hN
    have e1 : (c : Int) * ((r.length + 1 : Nat) : Int) = c * (r.length : Int) + c := by
      rw [Int.natCast_add, Int.mul_add]; simp
    rw [e1] at hN
    have hnn : 0 ≤ (c : Int) * (r.length : Int) := Int.mul_nonneg (by omega) (by omega)
    obtain ⟨ds1, y, h1, h2, h3⟩ := step d n List.mem_cons_self h0 (by omega)
    obtain ⟨ys, h4, h5, h6⟩ := compL_cnt c Q N r (fun d n hd => step d n (List.mem_cons_of_mem _ hd)) (n + c) (by omega) (by omega)
    refine ⟨y :: ys, ?_, by simp [h5], fun z hz => ?_⟩
    · unfold compL
      simp only [h1, ev_yes, h2, h4]
      have e2 : n + (c : Int) + c * (r.length : Int) = n + c * ((r.length + 1 : Nat) : Int) := by rw [e1]; omega
      rw [List.length_cons, e2]
    · rcases List.mem_cons.mp hz with rfl | hz
      · exact h3
      · exact h6 z hz
/-- an item for each, the count as it was -/
theorem compL_map {α : Type} {tg : Tg} {me : M} {vs : List Nat} {ds : DS} {n : Int} (f : α → D) (g : α → D) : ∀ (l : List α), (∀ a ∈ l, ∃ ds1, tg.bind (f a) (wipeD ds vs) = some ds1 ∧ me n ds1 = some (.ok (g a), n)) → compL tg mYes me vs (l.map f) n ds = some (.ok (l.map g), n)
  | [], _ => rfl
  | a :: r, h => by
    obtain ⟨ds1, h1, h2⟩ := h a List.mem_cons_self
    have h3 := compL_map f g r fun b hb => h b (List.mem_cons_of_mem _ hb)
    show compL tg mYes me vs (f a :: r.map f) n ds = _
    unfold compL
    simp only [h1, ev_yes, h2, h3, List.map_cons]
theorem lc_of_comp {mi : Mo (List D)} {tg : Tg} {tt : Mo Bool} {me : M} {vs : List Nat} {n n1 n2 : Int} {ds : DS} {as ys : List D} (h1 : mi n ds = some (.ok as, n1)) (h2 : compL tg tt me vs as n1 ds = some (.ok ys, n2)) (h3 : as.length ≤ 16777215) : mLc mi tg tt me vs n ds = some (.ok (.lst ys), n2) := by
  unfold mLc
  simp only [ev_mb, h1, h2, if_pos h3, ev_ret]
/-! ### texts -/
abbrev tx (l : List Nat) : Str := ⟨l.toArray⟩
theorem tx_inj {a b : List Nat} : tx a = tx b ↔ a = b := by
  constructor
  · intro h
    have := congrArg (fun s : Str => s.cps.toList) h
    simpa using this
  · rintro rfl; rfl
@[simp] theorem tx_len {l : List Nat} : (tx l).length = l.length := by
  show (l.toArray).size = _
  simp
theorem tx_app {a b : List Nat} : tx a ++ tx b = tx (a ++ b) := by
  show (⟨a.toArray ++ b.toArray⟩ : Str) = _
  simp
@[simp] theorem tx_cps {l : List Nat} : (tx l).cps.toList = l := by simp
@[simp] theorem tx_signs {l : List Nat} : signsD (tx l) = l.map fun c => .str (tx [c]) := by
  unfold signsD; simp
theorem ov_addS {a b : List Nat} (h : a.length + b.length ≤ 16777216) : oAdd (.str (tx a)) (.str (tx b)) = some (.str (tx (a ++ b))) := by
  show (if (tx a).length + (tx b).length ≤ sizeLine then some (D.str (tx a ++ tx b)) else none) = _
  rw [tx_len, tx_len, sizeLine_eq, if_pos h, tx_app]
theorem ov_ixS {l : List Nat} {i : Int} (h : l.length ≤ 16777216) : oIx (.str (tx l)) (.int i) = (atI l i).map fun c => .str (tx [c]) := by
  show (if (tx l).length ≤ sizeLine then (atI (tx l).cps.toList i).map _ else none) = _
  rw [tx_len, sizeLine_eq, if_pos h, tx_cps]
theorem ov_lenS {l : List Nat} (h : l.length ≤ 16777216) : oLen [.str (tx l)] = some (.int l.length) := by
  show (if (tx l).length ≤ sizeLine then some (D.int (tx l).length) else none) = _
  rw [tx_len, sizeLine_eq, if_pos h]
@[simp] theorem ov_eqS {x y : Str} : oEq (.str x) (.str y) = some (.bl (decide (x = y))) := by
  show (if scal (V.str x) (V.str y) = true then some (D.bl (decide (V.str x = V.str y))) else none) = _
  rw [if_pos (by rfl)]
  congr 2
  simp
@[simp] theorem ov_neS {x y : Str} : oNe (.str x) (.str y) = some (.bl (!decide (x = y))) := by
  show (if scal (V.str x) (V.str y) = true then some (D.bl (!decide (V.str x = V.str y))) else none) = _
  rw [if_pos (by rfl)]
  congr 2
  simp
@[simp] theorem ov_ord {c : Nat} : oOrd [.str (tx [c])] = some (.int c) := by
  show (if (tx [c]).length = 1 then some (D.int ((tx [c]).cps.getD 0 0 : Nat)) else none) = _
  rw [tx_len, if_pos (by rfl)]
  rfl
@[simp] theorem ov_inS {neg : Bool} {c : Nat} {l : List Nat} : oInS neg (.str (tx [c])) (.str (tx l)) = some (.bl (neg ^^ decide (c ∈ l))) := by
  show (if (tx [c]).cps.size = 1 then some (D.bl (neg ^^ decide ((tx [c]).cps.getD 0 0 ∈ (tx l).cps.toList))) else none) = _
  rw [if_pos (by simp), tx_cps]
  rfl
/-! ### dicts -/
theorem valD_put (kds : List (Key × D)) (k j : Key) (v : D) : valD (putKD kds k v) j = if j = k then some v else valD kds j := by
  unfold valD putKD
  by_cases h : (kds.any fun kv => decide (kv.1 = k)) = true
  · rw [if_pos h]
    induction kds with
    | nil => simp at h
    | cons p r ih =>
      rw [List.map_cons, List.find?_cons, List.find?_cons]
      by_cases hp : p.1 = k
      · rw [if_pos hp]
        by_cases hj : j = k
        · subst hj; simp [hp]
        · have h1 : decide (p.1 = j) = false := decide_eq_false fun z => hj (z.symm.trans hp)
          simp only [h1, if_neg hj]
          by_cases hr : (r.any fun kv => decide (kv.1 = k)) = true
          · have := ih hr
            rw [if_neg hj] at this; exact this
          · have hm : (r.map fun kv => if kv.1 = k then (kv.1, v) else kv) = r := by
              refine (List.map_congr_left (g := id) fun x hx => ?_).trans (List.map_id r)
              show (if x.1 = k then (x.1, v) else x) = x
              rw [if_neg]
              intro z
              exact hr (List.any_eq_true.mpr ⟨x, hx, decide_eq_true z⟩)
            rw [hm]
      · rw [if_neg hp]
        have hr : (r.any fun kv => decide (kv.1 = k)) = true := by
          rw [List.any_cons] at h
          simpa [hp] using h
        by_cases hpj : p.1 = j
        · have : j ≠ k := fun z => hp (hpj.trans z)
          simp [hpj, this]
        · simp only [decide_eq_false hpj]
          exact ih hr
  · rw [if_neg h, List.find?_append]
    by_cases hj : j = k
    · subst hj
      have : kds.find? (fun kv => decide (kv.1 = j)) = none := by
        rw [List.find?_eq_none]
        intro x hx z
        exact h (List.any_eq_true.mpr ⟨x, hx, z⟩)
      rw [this]
      simp
    · rw [if_neg hj]
      cases hf : kds.find? (fun kv => decide (kv.1 = j)) with
      | some x => simp
      | none => simp [List.find?_cons, Ne.symm hj]
/-! ### fields -/
abbrev fl (x : String) (d : D) : Str × D := (Str.ofString x, d)
theorem oFld_eq {C : Addr} {f : Str} {fs : List (Str × D)} : oFld C f (.obj C fs) = fs.lookup f := by
  unfold oFld; simp
theorem setF_of {m : M} {C : Addr} {f : Str} {n n1 : Int} {d : D} {fds : List (Str × D)} {r : DS} (h : m n (some (.obj C fds) :: r) = some (.ok d, n1)) (hl : fds.length < 1000) : sSetF 0 m C f n (some (.obj C fds) :: r) = some (.nx, n1, some (.obj C (putD f d fds)) :: r) := by
  unfold sSetF
  refine E_ok h ?_
  simp [hl]
/-- a list or a tuple -/
def seqD (b : Bool) (ds : List D) : D := match b with | true => .tup ds | false => .lst ds
@[simp] theorem len_seq {b : Bool} {ds : List D} : oLen [seqD b ds] = some (.int ds.length) := by cases b <;> rfl
@[simp] theorem items_seq {b : Bool} {ds : List D} : itemsD (seqD b ds) = some ds := by cases b <;> rfl
@[simp] theorem zipD_map {α β : Type} {f : α → D} {g : β → D} : ∀ {a : List α} {b : List β}, zipD (a.map f) (b.map g) = (a.zip b).map fun p => .tup [f p.1, g p.2]
  | [], _ => by simp [zipD]
  | _ :: _, [] => by simp [zipD]
  | x :: a, y :: b => by simp [zipD, zipD_map (a := a) (b := b)]
/-! ### changes, reckoned -/
theorem ext_of {i : Nat} {m : M} {n n1 : Int} {ds : DS} {as bs : List D} (hd : ds[i]? = some (some (.lst as))) (hm : m n ds = some (.ok (.lst bs), n1)) (hl : as.length + bs.length ≤ 16777216) : sExt i (mPN i) m n ds = some (.nx, n1, ds.set i (some (.lst (as ++ bs)))) := by
  unfold sExt
  refine E_ok (a := Pth.nil) (n1 := n) (by simp [mPN, conAt, hd, getP, isCon]) ?_
  simp only [hd, getP]
  refine E_ok hm ?_
  simp [hl, setP]
theorem app_of {i : Nat} {m : M} {n n1 : Int} {ds : DS} {as : List D} {d : D} (hd : ds[i]? = some (some (.lst as))) (hm : m n ds = some (.ok d, n1)) (hl : as.length < 16777216) : sApp i m n ds = some (.nx, n1, ds.set i (some (.lst (as ++ [d])))) := by
  unfold sApp
  simp only [hd]
  refine E_ok hm ?_
  simp [hl]
theorem setK_of {i : Nat} {m mj : M} {n n1 n2 : Int} {ds : DS} {kds : List (Key × D)} {d z : D} {key : Key} (hm : m n ds = some (.ok d, n1)) (hd : ds[i]? = some (some (.dct kds))) (hj : mj n1 ds = some (.ok z, n2)) (hk : keyD z = some key) (hl : kds.length < 16777216) : sSetK i m (mPN i) mj n ds = some (.nx, n2, ds.set i (some (.dct (putKD kds key d)))) := by
  unfold sSetK
  refine E_ok hm (E_ok (a := Pth.nil) (n1 := n1) (by simp [mPN, conAt, hd, getP, isCon]) (E_ok hj ?_))
  simp [hk, hd, getP, hl, setP]
theorem setKF_of {m mj : M} {n n1 n2 : Int} {C : Addr} {f : Str} {fds : List (Str × D)} {r : DS} {kds : List (Key × D)} {d z : D} {key : Key} (hm : m n (some (.obj C fds) :: r) = some (.ok d, n1)) (hf : fds.lookup f = some (.dct kds)) (hj : mj n1 (some (.obj C fds) :: r) = some (.ok z, n2)) (hk : keyD z = some key) (hl : kds.length < 16777216) : sSetK 0 m (mPF 0 C f) mj n (some (.obj C fds) :: r) = some (.nx, n2, some (.obj C (putD f (.dct (putKD kds key d)) fds)) :: r) := by
  unfold sSetK
  refine E_ok hm (E_ok (a := Pth.fd f) (n1 := n1) (by simp [mPF, conAt, getP, hf, isCon]) (E_ok hj ?_))
  simp [hk, getP, hf, hl, setP]
theorem setI_of {i : Nat} {m mk mj : M} {n n1 n2 n3 : Int} {ds : DS} {as row : List D} {d : D} {k j : Nat} (hm : m n ds = some (.ok d, n1)) (hd : ds[i]? = some (some (.lst as))) (hk : mk n1 ds = some (.ok (.int (k : Int)), n2)) (hr : as[k]? = some (.lst row)) (hj : mj n2 ds = some (.ok (.int (j : Int)), n3)) (hl : j < row.length) : sSetI i m (mPI i mk) mj n ds = some (.nx, n3, ds.set i (some (.lst (as.set k (.lst (row.set j d)))))) := by
  have hkl := (List.getElem?_eq_some_iff.mp hr).1
  unfold sSetI
  refine E_ok hm (E_ok (a := Pth.ix k) (n1 := n2) ?_ (E_ok hj ?_))
  · unfold mPI
    simp only [hd, ev_mb, hk]
    have hg : as[k] = D.lst row := (List.getElem?_eq_some_iff.mp hr).2
    simp [hkl, conAt, hd, getP, hg, isCon]
  · have hg : as[k] = D.lst row := (List.getElem?_eq_some_iff.mp hr).2
    simp [hd, getP, hkl, hg, hl, setP]
theorem setI1_of {i : Nat} {m mj : M} {n n1 n2 : Int} {ds : DS} {as : List D} {d : D} {j : Nat} (hm : m n ds = some (.ok d, n1)) (hd : ds[i]? = some (some (.lst as))) (hj : mj n1 ds = some (.ok (.int (j : Int)), n2)) (hl : j < as.length) : sSetI i m (mPN i) mj n ds = some (.nx, n2, ds.set i (some (.lst (as.set j d)))) := by
  unfold sSetI
  refine E_ok hm (E_ok (a := Pth.nil) (n1 := n1) (by simp [mPN, conAt, hd, getP, isCon]) (E_ok hj ?_))
  simp [hd, getP, hl, setP]
end GW

namespace GW
open PySem L2 PyProof.Rows
/-! ### an error that is caught: known from then on -/
section
variable {X : Cx} {pins : List (Addr × Obj)} {σ : L2.St} {H : Hp} {s : Shared}
theorem Inv_track {a C : Addr} {d : Option Addr} {oe : Obj} {vs : Array Value} (I : Inv X pins σ H s) (ha : s.heap.get? a = some oe) (hz : Zc (.ref C) d oe) (hd : oe.data = .fields vs) (na : H a = none) (n0 : X.s_0.heap.get? a = none) (nL : a ≠ X.env.locals) (np : ∀ p ∈ X.pn ++ pins, p.1 ≠ a) :
    Inv X pins σ (upd H a (ErO C d a)) s := by
  have old : ∀ b u, H b = some u → upd H a (ErO C d a) b = some u := fun b u e => by rw [upd_ne (ne_of_none e na)]; exact e
  refine ⟨I.ok, I.os, I.bare, ⟨I.base.keep, I.base.slot, fun b o e n hx => ?_, I.base.there, fun b xs e => old _ _ (I.base.tups b xs e), fun b o u e => old _ _ (I.base.frzs b o u e), fun b ps e => ?_⟩, I.loc, I.cell, ?_, fun x c e => ?_, fun p hp => ?_, ?_, I.len⟩
  · rw [upd_ne fun z => by rw [z, n0] at e; cases e]
    exact I.base.free b o e n hx
  · obtain ⟨m, z⟩ := I.base.tbls b ps e
    exact ⟨m, old _ _ z⟩
  · rw [upd_ne (Ne.symm nL)]; exact I.free
  · rw [upd_ne fun z => ?_]
    · exact I.freeC x c e
    · obtain ⟨v, o, h1, h2⟩ := I.cell x c e
      rw [z, ha] at h1
      cases h1
      rw [hd] at h2
      cases h2
  · obtain ⟨h1, h2, h3⟩ := I.pin p hp
    exact ⟨h1, by rw [upd_ne (np p hp)]; exact h2, h3⟩
  · exact HOk.laidN I.hok (fun _ _ e => e) na ⟨⟨oe, vs, ha, hz, hd⟩, ⟨oe, ha⟩, fun h1 h2 ⟨o, v, q, r⟩ k => ⟨o, v, k o q, r⟩⟩
theorem Inv_suite {a : Addr} (I : Inv X pins σ H s) : Inv (X.suite a (X.pn ++ pins)) [] σ H s :=
  ⟨I.ok.suite _ _, I.os, I.bare, I.base, I.loc, I.cell, I.free, I.freeC, fun p hp => I.pin p (by rw [List.append_nil] at hp; exact hp), I.hok, I.len⟩
theorem Inv_unsuite {a : Addr} {pn' : List (Addr × Obj)} (I : Inv (X.suite a (X.pn ++ pins)) pn' σ H s) (ok : X.Ok) : Inv X pins σ H s :=
  ⟨ok, I.os, I.bare, I.base, I.loc, I.cell, I.free, I.freeC, fun p hp => I.pin p (List.mem_append_left _ hp), I.hok, I.len⟩
end
/-- the name of an except clause goes at its suite's end -/
def unE (i : Nat) (D : Ends) : Ends := { nx := fun σ' H' => D.nx (σ'.set i none) H', rt := D.rt, bk := fun σ' H' => D.bk (σ'.set i none) H', ct := fun σ' H' => D.ct (σ'.set i none) H' }
abbrev Hd := Value × Option Nat × TS
/-- what the clauses wish of an error of the body -/
def wT (K : PySem.W.Frag) (Wout : WX) (D : Ends) : List Hd → WX
  | [] => Wout
  | (c, none, ts) :: r => fun cls d σ H => ∃ b, PySem.W.exmOne K cls c = some b ∧ (b = true → ts D σ H) ∧ (b = false → wT K Wout D r cls d σ H)
  | (c, some i, ts) :: r => fun cls d σ H => ∃ b, PySem.W.exmOne K cls c = some b ∧ (b = true → ∃ C, cls = .ref C ∧ ∀ a, H a = none → ts (unE i D) (σ.set i (some (.ref a))) (upd H a (ErO C d a))) ∧ (b = false → wT K Wout D r cls d σ H)
inductive HdsT (X : Cx) : List ExceptHandler → List Hd → Prop
  | nil : HdsT X [] []
  | plain {x : Str} {c : Value} {ts : TS} {b₀ : Stmt} {suite : List Stmt} {np pos' : Pos} {hds : List ExceptHandler} {l : List Hd} (hc : Names X x c) (hsu : ∀ (a : Addr) (pn : List (Addr × Obj)), PSs (X.suite a pn) (b₀ :: suite) ts) (r : HdsT X hds l) :
      HdsT X (.ExceptHandler (some (.Name x np)) none (b₀ :: suite) pos' :: hds) ((c, none, ts) :: l)
  | named {x n : Str} {i : Nat} {c : Value} {ts : TS} {b₀ : Stmt} {suite : List Stmt} {np pos' : Pos} {hds : List ExceptHandler} {l : List Hd} (hi : X.N[i]? = some n) (hln : X.env.kindOf n = some .local) (hc : Names X x c) (hsu : ∀ (a : Addr) (pn : List (Addr × Obj)), PSs (X.suite a pn) (b₀ :: suite) ts) (r : HdsT X hds l) :
      HdsT X (.ExceptHandler (some (.Name x np)) (some n) (b₀ :: suite) pos' :: hds) ((c, some i, ts) :: l)
section
variable {X : Cx} {body : List Stmt} {h₀ : ExceptHandler} {hds : List ExceptHandler} {l : List Hd} {pos : Pos} {tb : WX → TS} {Wout : WX}
theorem ps_tryT (hs : X.stack = X.env :: X.outer) (hf : X.env.frame = some X.env.locals) (hex : X.ex = []) (hN : X.N.Nodup) (tk : Takes X Wout)
    (hb : ∀ (W : WX) (pn : List (Addr × Obj)) (xe : Value → Shared → Prop), Takes (X.tr pn xe) W → PassesOwn (model X.prog X.w) X.A X.env xe → PSs (X.tr pn xe) body (tb W))
    (hh : HdsT X (h₀ :: hds) l) : PS X (.Try body (h₀ :: hds) [] [] pos) (fun D σ H => tb (wT X.K Wout D l) D σ H) := by
  refine ⟨fun pins s σ H D I h => ?_⟩
  have ok := I.ok
  have hfr : X.A.frames = some (X.env :: X.outer) := by rw [ok.frames, hs]
  refine wpAny_Try_except ?_
  refine wpAny_mono ((hb (wT X.K Wout D l) (X.pn ++ pins) (fun e s₁ => wpAny (model X.prog X.w) X.A (noteFrame e X.env) (fun _ s₂ => wpAny (model X.prog X.w) X.A (setFlight e none) (fun _ s₃ =>
    wpAny (model X.prog X.w) X.A (handleBy e X.env (h₀ :: hds)) (SP X pins D) X.xe s₃) X.xe s₂) X.xe s₁) (fun u s' xx => ?_) PassesOwn.looking).run [] s σ H D (I.toTry _) h) (fun f s1 hsp => ?_) (fun e s1 he => he)
  · obtain ⟨a, B, sI, pins', σ', H', cls, d, rfl, J', nb, up, sky, na, os, ag, w⟩ := xx
    have J : Inv X pins σ' H' sI := J'.ofTry ok
    have sky' : Sky B (X.env :: X.outer) a (Zc cls d) X.env.locals s'.heap := by rw [← hs]; exact sky
    show wpAny (model X.prog X.w) X.A (noteFrame (.ref a) X.env) _ _ _
    refine Sky.land Zc.steady hfr hf sky' fun h3 fl3 up3 => ?_
    have J3 : Inv X pins σ' H' { s' with heap := h3 } := J.landed nb fl3.1 (up.trans up3) os ag
    obtain ⟨oe3, vs3, he3, hz3, hd3⟩ := fl3.there
    have nfr : a ∉ frs (X.env :: X.outer) := fun hm => by
      obtain ⟨_, o', e', hnf⟩ := fl3.2.2.1.mem hm
      rw [he3] at e'; cases e'
      exact hnf _ hd3
    have nL : a ≠ X.env.locals := fun z => nfr (List.mem_filterMap.mpr ⟨X.env, List.mem_cons_self, by rw [hf, z]⟩)
    have nF : a ∉ X.fs := fun hm => by
      obtain ⟨e, he, q⟩ := List.mem_filterMap.mp hm
      exact nfr (List.mem_filterMap.mpr ⟨e, List.mem_cons_of_mem _ he, q⟩)
    have nI : sI.heap.get? a = none := by
      cases e : sI.heap.get? a with
      | none => rfl
      | some o =>
        have := nb a o e (by rw [hs]; exact nfr)
        rw [fl3.2.1] at this; cases this
    have n0 : X.s_0.heap.get? a = none := by
      cases e : X.s_0.heap.get? a with
      | none => rfl
      | some o =>
        obtain ⟨o', z⟩ := J.base.there a o e (by rw [hex]; exact fun z => nomatch z)
        rw [nI] at z; cases z
    have np : ∀ p ∈ X.pn ++ pins, p.1 ≠ a := fun p hp z => by
      have := (J.pin p hp).1
      rw [z, nI] at this; cases this
    have S3 := J3.suite he3 hd3 na nL nF
    have go : ∀ {hds' : List ExceptHandler} {l' : List Hd}, HdsT X hds' l' → wT X.K Wout D l' cls d σ' H' → wpAny (model X.prog X.w) X.A (handleBy (.ref a) X.env hds') (SP X pins D) X.xe { s' with heap := h3 } := by
      have test : ∀ {x : Str} {c : Value} {np : Pos} {Q : Value → Shared → Prop} {E : Value → Shared → Prop}, Names X x c → Q c { s' with heap := h3 } → wpAny (model X.prog X.w) (X.A.mark (some (.ref a))) (eval (.Name x np) X.env) Q E { s' with heap := h3 } := fun {x c np Q E} hc q => by
        obtain ⟨hg, hdbg, hm | ⟨hm, hv, hnn⟩⟩ := hc
        · exact ld_glob (X := X.suite a ((a, oe3) :: (X.pn ++ pins))) S3 hg hm q hdbg
        · exact ld_blt (X := X.suite a ((a, oe3) :: (X.pn ++ pins))) S3 hg hm hv q hnn hdbg
      have LT : PySem.W.Looks (model X.prog X.w) h3 (typeOf (.ref a)) cls := fun A Q E s k q => wpAny_typeOf_ref (k _ _ he3) (by rw [hz3.1]; exact q)
      intro hds' l' hk
      induction hk with
      | nil =>
        intro w
        refine wpAny_handleBy_nil ?_
        obtain ⟨k1, k2, k3, oe, vs, T, oT, ts', he, hz, hd, h1, hr⟩ := id fl3
        unfold PySem.passOn
        refine wpAny_bind (wpAny_field he hd h1 ?_)
        rw [if_neg (show ¬ ((Value.ref T == Value.none) = true) from by simp)]
        have fin : wpAny (model X.prog X.w) X.A (setFlight (.ref a) X.env.frame) (fun _ s4 => wpAny (model X.prog X.w) X.A (throw (.ref a) : Sem Flow) (SP X pins D) X.xe s4) X.xe { s' with heap := h3 } := by
          rw [hf]
          refine HandSPX.setFlight_upZ fl3 fun h4 hh4 up4 => wpAny_throw (tk _ _ ?_)
          exact ⟨a, B, sI, pins, σ', H', cls, d, rfl, J, nb, (up.trans up3).trans up4, .inr (.inr (by rw [hs]; exact hh4)), na, os, ag, w⟩
        first
          | exact wpAny_bind (wpAny_pure (wpAny_bind fin))
          | exact wpAny_bind fin
      | @plain x c ts b₀ suite np2 pos' hds2 l2 hc hsu r ih =>
        intro w
        obtain ⟨b, hb1, hyes, hno⟩ := w
        refine wpAny_handleBy_cons (codeAny_handlers_test ?_) (by intro q; cases q)
        refine test hc ((PySem.W.exm_one (M := model X.prog X.w) (J3.kIn) LT hb1).here ?_)
        cases b with
        | true =>
          refine codeAny_handlers_suite ?_
          refine HandSPX.lands_againZ fl3 fun h4 fl4 up4 => ?_
          have J4 : Inv X pins σ' H' { s' with heap := h4 } := J.landed nb fl4.1 ((up.trans up3).trans up4) os ag
          refine wpAny_mono ((hsu a (X.pn ++ pins)).run [] _ _ H' _ (Inv_suite J4) (hyes rfl)) (fun f s6 hsp => ?_) (fun _ _ z => False.elim z)
          cases f with
          | ret u =>
            obtain ⟨v6, σ6, H6, S6, r6, q6⟩ := hsp
            exact ⟨_, _, _, Inv_unsuite S6 ok, r6, q6⟩
          | _ =>
            obtain ⟨σ6, H6, S6, q6⟩ := hsp
            exact ⟨_, _, Inv_unsuite S6 ok, q6⟩
        | false => exact ih (hno rfl)
      | @named x n i c ts b₀ suite np2 pos' hds2 l2 hi hln hc hsu r ih =>
        intro w
        obtain ⟨b, hb1, hyes, hno⟩ := w
        refine wpAny_handleBy_cons (codeAny_handlers_test ?_) (by intro q; cases q)
        refine test hc ((PySem.W.exm_one (M := model X.prog X.w) (J3.kIn) LT hb1).here ?_)
        cases b with
        | true =>
          obtain ⟨C, rfl, hy2⟩ := hyes rfl
          refine codeAny_handlers_suite_as ?_
          refine HandSPX.lands_againZ fl3 fun h4 fl4 up4 => ?_
          have J4 : Inv X pins σ' H' { s' with heap := h4 } := J.landed nb fl4.1 ((up.trans up3).trans up4) os ag
          obtain ⟨oe4, vs4, he4, hz4, hd4⟩ := fl4.there
          have T4 := Inv_suite (a := a) (Inv_track J4 he4 hz4 hd4 na n0 nL np)
          refine store_ok (X := X.suite a (X.pn ++ pins)) (v := .ref a) T4 hN hi (.inl hln) rfl (fun s5 S5 => ?_) (.inr hln)
          refine wpAny_mono ((hsu a (X.pn ++ pins)).run [] s5 _ _ _ S5 (hy2 a na)) (fun f s6 hsp => ?_) (fun _ _ z => False.elim z)
          have end_ : ∀ {σ6 : L2.St} {H6 : Hp} {Q : Shared → Prop}, Inv (X.suite a (X.pn ++ pins)) [] σ6 H6 s6 → (∀ s7, Inv X pins (σ6.set i none) H6 s7 → Q s7) →
              wpAny (model X.prog X.w) X.A (do bindName X.env n .none; unbindBehindTheSuite X.env n pos') (fun _ s7 => Q s7) X.xe s6 := fun {σ6 H6 Q} S6 hq => gone_ok (Inv_unsuite S6 ok) hN hi hln hq
          cases f with
          | next =>
            obtain ⟨σ6, H6, S6, q6⟩ := hsp
            exact end_ S6 fun s7 J7 => ⟨_, _, J7, q6⟩
          | brk =>
            obtain ⟨σ6, H6, S6, q6⟩ := hsp
            exact end_ S6 fun s7 J7 => ⟨_, _, J7, q6⟩
          | cont =>
            obtain ⟨σ6, H6, S6, q6⟩ := hsp
            exact end_ S6 fun s7 J7 => ⟨_, _, J7, q6⟩
          | ret u =>
            obtain ⟨v6, σ6, H6, S6, r6, q6⟩ := hsp
            exact end_ S6 fun s7 J7 => ⟨_, _, _, J7, r6, q6⟩
        | false => exact ih (hno rfl)
    exact go hh w
  · cases f with
    | next =>
      obtain ⟨σ', H', J', q⟩ := hsp
      exact wpAny_execs_nil ⟨σ', H', J'.ofTry ok, q⟩
    | brk =>
      obtain ⟨σ', H', J', q⟩ := hsp
      exact ⟨σ', H', J'.ofTry ok, q⟩
    | cont =>
      obtain ⟨σ', H', J', q⟩ := hsp
      exact ⟨σ', H', J'.ofTry ok, q⟩
    | ret u =>
      obtain ⟨v, σ', H', J', r, q⟩ := hsp
      exact ⟨v, σ', H', J'.ofTry ok, r, q⟩
end
end GW

namespace GW
open PySem L2 PyProof.Rows
/-! ### the program's own errors: facts -/
def esub (c k : Nat) : Bool := c == k || k == 0
structure ExF (K : PySem.W.Frag) (C : Addr) : Prop where
  cl : (PySem.W.clsIn K C).isSome = true
  ga : PySem.W.findIn K (.ref C) "__getattribute__" = some (some (.builtin "BaseException.__getattribute__"))
  gg : PySem.W.findIn K (.ref C) "__getattr__" = some none
  sb : PySem.W.subIn K (.ref C) (.type "BaseException") = some true
  hd : PySem.W.hasDictIn K C = true
  ha : PySem.W.findIn K (.ref C) "__class__" = some (some (.builtin "object.__class__"))
  hn : PySem.W.specialIn K (.builtin "object.__class__") "__get__" = some (some (.builtin "getset_descriptor.__get__"))
  ht : PySem.W.takesIn K (.builtin "object.__class__") = some true
  hm : PySem.W.mroIn K C (.type "object") = some true
  ty : PySem.W.typeIn K (.ref C) = some (.type "type")
  kp : PySem.W.keepIn K (.ref C) = true
def exFB (K : PySem.W.Frag) (C : Addr) : Bool := [(PySem.W.clsIn K C).isSome,
  decide (PySem.W.findIn K (.ref C) "__getattribute__" = some (some (.builtin "BaseException.__getattribute__"))),
  decide (PySem.W.findIn K (.ref C) "__getattr__" = some none),
  decide (PySem.W.subIn K (.ref C) (.type "BaseException") = some true),
  PySem.W.hasDictIn K C,
  decide (PySem.W.findIn K (.ref C) "__class__" = some (some (.builtin "object.__class__"))),
  decide (PySem.W.specialIn K (.builtin "object.__class__") "__get__" = some (some (.builtin "getset_descriptor.__get__"))),
  decide (PySem.W.takesIn K (.builtin "object.__class__") = some true),
  decide (PySem.W.mroIn K C (.type "object") = some true),
  decide (PySem.W.typeIn K (.ref C) = some (.type "type")),
  PySem.W.keepIn K (.ref C)].all id
theorem exFB_ok {K : PySem.W.Frag} {C : Addr} (h : exFB K C = true) : ExF K C := by
  unfold exFB at h
  simp only [List.all_cons, List.all_nil, id, Bool.and_true, Bool.and_eq_true, decide_eq_true_eq] at h
  obtain ⟨h1, h2, h3, h4, h5, h6, h7, h8, h9, h10, h11⟩ := h
  exact ⟨h1, h2, h3, h4, h5, h6, h7, h8, h9, h10, h11⟩
def fldN : List Str := ["row", "place", "at", "line"]
/-- the errors us: what is known of each, of each two -/
structure EFs (K : PySem.W.Frag) (us : List Nat) : Prop where
  ex : ∀ k ∈ us, ExF K (ec K k)
  sub : ∀ k ∈ us, ∀ j ∈ us, PySem.W.kitOne K (.ref (ec K k)) (.ref (ec K j)) = some (esub k j)
  exm : ∀ k ∈ us, ∀ j ∈ us, PySem.W.exmOne K (.ref (ec K k)) (.ref (ec K j)) = some (esub k j)
  ve : ∀ k ∈ us, PySem.W.kitOne K (.ref (ec K k)) (.type "ValueError") = some true
  no : ∀ k ∈ us, ∀ f ∈ fldN, PySem.W.findIn K (.ref (ec K k)) f = some none
def efB (us : List Nat) (K : PySem.W.Frag) : Bool := (us.all fun k => exFB K (ec K k)) && ((us.all fun k => us.all fun j => decide (PySem.W.kitOne K (.ref (ec K k)) (.ref (ec K j)) = some (esub k j))) && ((us.all fun k => us.all fun j => decide (PySem.W.exmOne K (.ref (ec K k)) (.ref (ec K j)) = some (esub k j))) && ((us.all fun k => decide (PySem.W.kitOne K (.ref (ec K k)) (.type "ValueError") = some true)) && us.all fun k => fldN.all fun f => decide (PySem.W.findIn K (.ref (ec K k)) f = some none))))
theorem efB_ok {K : PySem.W.Frag} {us : List Nat} (h : efB us K = true) : EFs K us := by
  unfold efB at h
  simp only [Bool.and_eq_true, List.all_eq_true, decide_eq_true_eq] at h
  obtain ⟨h1, h2, h3, h4, h5⟩ := h
  exact ⟨fun k hk => exFB_ok (h1 k hk), h2, h3, h4, h5⟩
/-- an error without an own __init__ is raised -/
structure EOwn (K : PySem.W.Frag) (mg : Str → Option Value) (c : Nat) : Prop where
  gl : mg (exN c) = some (.ref (ec K c))
  xc : PySem.W.excIn K (ec K c) He.veBase "ValueError.__new__" = true
  ef : ExF K (ec K c)

/-! ### isinstance of an error, its fields -/
theorem ErO_inst {X : Cx} {pins : List (Addr × Obj)} {σ : L2.St} {H : Hp} {s : Shared} {a C : Addr} {od : Option Addr} {fs : List (Str × Int)} (I : Inv X pins σ H s) (ha : H a = some (ErO C od a)) (hd : ErD H od fs) :
    ∃ (oe : Obj) (oo : Option Obj), PySem.W.InstAt s.heap a oe C oo ∧ (oo = none → fs = []) ∧ ∀ o f, oo = some o → ∃ u, PySem.W.lookIn f o = some u ∧ RelO ((fs.map fun p => (p.1, V.int p.2)).lookup f) u := by
  have x : ObjOk X.prog X.w H s.heap a (.ext fun h => ∃ (oe : Obj) (vs : Array Value), h.get? a = some oe ∧ Zc (.ref C) od oe ∧ oe.data = .fields vs) := I.hok a _ ha
  obtain ⟨⟨oe, vs, h1, hz, h2⟩, _⟩ := x
  have hno : PySem.W.notCls oe = true := by unfold PySem.W.notCls; rw [h2] <;> rfl
  rcases hd with ⟨rfl, rfl⟩ | ⟨d, rfl, hd⟩
  · exact ⟨oe, none, ⟨h1, hz.1, hno, by rw [hz.2]; trivial⟩, fun _ => rfl, fun o f z => by cases z⟩
  · have hx : ObjOk X.prog X.w H s.heap d (.xd (fs.map fun p => (p.1, V.int p.2))) := I.hok d _ hd
    obtain ⟨mA, hns, hr⟩ := hx
    obtain ⟨o, ho, hl⟩ := lookIn_ns hns
    refine ⟨oe, some o, ⟨h1, hz.1, hno, by rw [hz.2]; exact ho⟩, (fun z => by cases z), fun o' f z => ?_⟩
    cases z
    exact ⟨_, hl f, hr f⟩
def rIsEr (K : PySem.W.Frag) : List V → Hp → VK → Prop := fun xs H Q => ∃ (a C : Addr) (od : Option Addr) (fs : List (Str × Int)) (c : V) (u : Value) (b : Bool), xs = [.ref a, c] ∧ H a = some (ErO C od a) ∧ ErD H od fs ∧ ExF K C ∧ ClsV c u ∧ PySem.W.kitOne K (.ref C) u = some b ∧ Q (.bl b) H
def rIsErT (K : PySem.W.Frag) : List V → Hp → VK → Prop := fun xs H Q => ∃ (a C tp : Addr) (od : Option Addr) (fs : List (Str × Int)) (cs : List V) (us : List Value) (b : Bool), xs = [.ref a, .ref tp] ∧ H a = some (ErO C od a) ∧ ErD H od fs ∧ ExF K C ∧ H tp = some (.tup cs) ∧ Paired ClsV cs us ∧ PySem.W.kitAny K (.ref C) us = some b ∧ Q (.bl b) H
theorem call_isEr {X : Cx} : CallR X (.builtin "isinstance") (rIsEr X.K) := by
  intro pins s σ H xs us Q I r h
  obtain ⟨a, C, od, fs, c, u, b, rfl, ha, hd, E, k, e, q⟩ := h
  obtain ⟨u1, u2, rfl, r1, r2⟩ := vals2 r
  have e2 := k.eq r2
  subst e2
  cases (show u1 = Value.ref a from r1)
  obtain ⟨oe, oo, J, _⟩ := ErO_inst I ha hd
  exact PySem.W.kia_one (PySem.W.kitx_exc E.cl E.ga E.gg E.sb E.ha E.hn E.ht E.hm) I.kIn J e (fun z => nomatch z) fun tk => ⟨.bl b, H, I.tok tk, rfl, q⟩
theorem call_isErT {X : Cx} : CallR X (.builtin "isinstance") (rIsErT X.K) := by
  intro pins s σ H xs us Q I r h
  obtain ⟨a, C, tp, od, fs, cs, ws, b, rfl, ha, hd, E, hT, k, e, q⟩ := h
  obtain ⟨u1, u2, rfl, r1, r2⟩ := vals2 r
  cases (show u2 = Value.ref tp from r2)
  cases (show u1 = Value.ref a from r1)
  obtain ⟨oe, oo, J, _⟩ := ErO_inst I ha hd
  obtain ⟨_, its, rv, o, h1, h2, n, h3⟩ := (show ObjOk X.prog X.w H s.heap tp (.tup cs) from I.hok tp _ hT)
  have e3 := ClsV.all k rv
  subst e3
  obtain ⟨oc, od2, dt, sl⟩ := o
  simp only at h2 h3
  subst h2 h3
  exact PySem.W.kia_tup (PySem.W.kitx_exc E.cl E.ga E.gg E.sb E.ha E.hn E.ht E.hm) I.kIn J h1 e (fun z => nomatch z) fun tk => ⟨.bl b, H, I.tok tk, rfl, q⟩
/-- the reading of e.f, e an error -/
def tErF (K : PySem.W.Frag) (f : Str) (te : TE) : TE := fun σ H Q => te σ H fun x H1 => ∃ (a C : Addr) (od : Option Addr) (fs : List (Str × Int)) (i : Int), x = .ref a ∧ H1 a = some (ErO C od a) ∧ ErD H1 od fs ∧ ExF K C ∧ PySem.W.findIn K (.ref C) f = some none ∧ fs.lookup f = some i ∧ Q (.int i) H1
theorem lookup_ints {f : Str} {i : Int} : ∀ {fs : List (Str × Int)}, fs.lookup f = some i → (fs.map fun p => (p.1, V.int p.2)).lookup f = some (.int i)
  | [], h => by cases h
  | (g, j) :: r, h => by
    rw [List.map_cons]
    by_cases e : f = g
    · subst e
      simp [List.lookup] at h ⊢
      exact h
    · have e' : (f == g) = false := by simpa using e
      simp [List.lookup, e'] at h ⊢
      exact lookup_ints h
theorem pe_erF {X : Cx} {e : Expr} {te : TE} {pos : Pos} {n : Str} (he : PE X e te) (hb : attributeBase e n X.env (eval e X.env) = eval e X.env := by rfl) : PE X (.Attribute e n pos) (tErF X.K n te) := by
  refine ⟨fun pins s σ H Q I h => ?_⟩
  refine attr_of hb (thn (he.run pins s σ H _ I h) fun u s1 hh => ?_)
  obtain ⟨x, H1, I1, rx, a, C, od, fs, i, ex, ha, hd, E, hno, hl, q⟩ := hh
  subst ex
  obtain rfl : u = Value.ref a := rx
  obtain ⟨oe, oo, J, h0, h1⟩ := ErO_inst I1 ha hd
  cases oo with
  | none => rw [h0 rfl] at hl; cases hl
  | some o =>
    obtain ⟨w, hu, ru⟩ := h1 o n rfl
    rw [lookup_ints hl] at ru
    obtain ⟨u, hu2, ru2⟩ := RelO.some_of (v := .int i) (o := w) ru
    exact HandSPX.exc_get I1.kIn J E.ga E.gg E.sb (PySem.W.findObj_own E.hd hno rfl (by rw [hu, hu2])) (handed_of ru2) ⟨.int i, H1, I1.tok _, ru2, q⟩

/-! ### mirrors -/
def oIsE (us : List Nat) (js : List Nat) : D → Option D
  | .err c _ => if us.contains c && js.all us.contains then some (.bl (js.any (esub c))) else none
  | _ => none
def oIsV (us : List Nat) : D → Option D
  | .err c _ => if us.contains c then some (.bl true) else none
  | _ => none
def oFldE (us : List Nat) (f : Str) : D → Option D
  | .err c fs => if us.contains c && fldN.contains f then (fs.lookup f).map .int else none
  | _ => none
def oIsNon : D → Option D
  | .non => some (.bl true)
  | .err _ _ => some (.bl false)
  | _ => none
section
variable {X : Cx} {C : Ctx} {wx : WX} {g : Rg} {k kr : Nat} {e : Expr} {m : M} {p p2 pos : Pos} {us : List Nat}
theorem err_of {F H : Hp} {v : V} {c : Nat} {fs : List (Str × Int)} {A : AS} (s : Same F H) (r : Rp C.K F H k v (.err c fs) A) : ∃ a od, v = .ref a ∧ H a = some (ErO (ec C.K c) od a) ∧ ErD H od fs := by
  cases r with
  | err h x => exact ⟨_, _, rfl, s _ _ h, x.mono s⟩
theorem ve_isE {y : Str} {j : Nat} (E : EFs C.K us) (hm : X.mg "isinstance" = none) (hy : X.mg y = some (.ref (ec C.K j))) (hj : j ∈ us) (ha : PE X e (W C wx .bo 0 m)) (hgT : Gl X y := by rfl) (hdT : (y == ("__debug__" : Str)) = false := by decide) (hg : Gl X "isinstance" := by rfl)
    (hs : starEach [e, .Name y p2] X.env = (false, eval e X.env) :: starEach [.Name y p2] X.env := by rfl) (hs2 : starEach [.Name y p2] X.env = (false, eval (.Name y p2) X.env) :: starEach [] X.env := by rfl) (hpl : (backTo pos (starEach [.Name y p2] X.env)).any (·.1) = false := by rfl) (hK : X.K = C.K := by rfl) :
    PE X (.Call (.Name "isinstance" p) [e, .Name y p2] [] pos) (W C wx g k (m1 m (oIsE us [j]))) := by
  refine (pe_callB call_isEr hg hm PyProof.Rows.boot_isinstance (pa_cons ha (pa_cons (pe_glob (v := .ref (ec C.K j)) hgT hy rfl hdT) pa_nil hs2) hs) (by decide) (by decide) hs hpl).wk fun σ H Q w => ?_
  obtain ⟨F, B, n, ds, S, h⟩ := w
  refine ⟨F, B, n, ds, S, (h.bind fun F1 H1 F2 H2 v d G r => r.tr G).mono fun x H1 ⟨F1, n1, d, G1, S1, ⟨A1, r1, f1⟩, h1⟩ => ?_⟩
  obtain ⟨d2, e2, q⟩ := h1.sc S1
  cases d with
  | err c fs =>
    unfold oIsE at e2
    dsimp only at e2
    split at e2
    · rename_i hc
      simp only [Bool.and_eq_true, List.contains_iff_mem] at hc
      cases e2
      obtain ⟨a, od, rfl, ha, hd⟩ := err_of (rg_same S1.fh) r1
      rw [hK]
      refine ⟨a, _, od, fs, .ref (ec C.K j), .ref (ec C.K j), esub c j, rfl, ha, hd, E.ex c hc.1, .own _, E.sub c hc.1 j hj, ?_⟩
      have := q (.bl (esub c j)) (by simp [scV])
      exact this
    · cases e2
  | _ => cases e2
theorem ve_isV (E : EFs C.K us) (hm : X.mg "isinstance" = none) (hy : X.mg "ValueError" = none) (ha : PE X e (W C wx .bo 0 m)) (hgT : Gl X "ValueError" := by rfl) (hg : Gl X "isinstance" := by rfl)
    (hs : starEach [e, .Name "ValueError" p2] X.env = (false, eval e X.env) :: starEach [.Name "ValueError" p2] X.env := by rfl) (hs2 : starEach [.Name "ValueError" p2] X.env = (false, eval (.Name "ValueError" p2) X.env) :: starEach [] X.env := by rfl) (hpl : (backTo pos (starEach [.Name "ValueError" p2] X.env)).any (·.1) = false := by rfl) (hK : X.K = C.K := by rfl) :
    PE X (.Call (.Name "isinstance" p) [e, .Name "ValueError" p2] [] pos) (W C wx g k (m1 m (oIsV us))) := by
  refine (pe_callB call_isEr hg hm PyProof.Rows.boot_isinstance (pa_cons ha (pa_cons (pe_bltn (v := .ty "ValueError") (u := .type "ValueError") hgT hy PyProof.Rows.Boot.«ValueError» rfl (by decide) (by decide)) pa_nil hs2) hs) (by decide) (by decide) hs hpl).wk fun σ H Q w => ?_
  obtain ⟨F, B, n, ds, S, h⟩ := w
  refine ⟨F, B, n, ds, S, (h.bind fun F1 H1 F2 H2 v d G r => r.tr G).mono fun x H1 ⟨F1, n1, d, G1, S1, ⟨A1, r1, f1⟩, h1⟩ => ?_⟩
  obtain ⟨d2, e2, q⟩ := h1.sc S1
  cases d with
  | err c fs =>
    unfold oIsV at e2
    dsimp only at e2
    split at e2
    · rename_i hc
      simp only [List.contains_iff_mem] at hc
      cases e2
      obtain ⟨a, od, rfl, ha, hd⟩ := err_of (rg_same S1.fh) r1
      rw [hK]
      exact ⟨a, _, od, fs, .ty "ValueError", .type "ValueError", true, rfl, ha, hd, E.ex c hc, .ty _, E.ve c hc, q (.bl true) (by simp [scV])⟩
    · cases e2
  | _ => cases e2
/-- names of errors, one behind another -/
inductive NmC (X : Cx) (K : PySem.W.Frag) : List Expr → List Nat → Prop
  | nil : NmC X K [] []
  | cons {y : Str} {p : Pos} {j : Nat} {es : List Expr} {js : List Nat} (hy : X.mg y = some (.ref (ec K j))) (hg : Gl X y) (hd : (y == ("__debug__" : Str)) = false) (hs : starEach (.Name y p :: es) X.env = (false, eval (.Name y p) X.env) :: starEach es X.env) (r : NmC X K es js) : NmC X K (.Name y p :: es) (j :: js)
theorem NmC.pa {K : PySem.W.Frag} {es : List Expr} {js : List Nat} (h : NmC X K es js) : PA X es (fun σ H Q => Q (js.map fun j => V.ref (ec K j)) H) := by
  induction h with
  | nil => exact pa_nil
  | cons hy hg hd hs r ih => exact pa_cons (pe_glob (v := .ref (ec K _)) hg hy rfl hd) ih hs
theorem paired_cls {K : PySem.W.Frag} : ∀ js : List Nat, Paired ClsV (js.map fun j => V.ref (ec K j)) (js.map fun j => Value.ref (ec K j))
  | [] => .nil
  | j :: r => .cons (.own _) (paired_cls r)
theorem kitAny_js (E : EFs C.K us) {c : Nat} (hc : c ∈ us) : ∀ {js : List Nat}, (∀ j ∈ js, j ∈ us) → PySem.W.kitAny C.K (.ref (ec C.K c)) (js.map fun j => Value.ref (ec C.K j)) = some (js.any (esub c))
  | [], _ => rfl
  | j :: r, h => by
    refine kitAny_cons (E.sub c hc j (h j List.mem_cons_self)) (fun z => ?_) fun z => ?_
    · rw [List.any_cons, z, Bool.false_or]
      exact kitAny_js E hc fun j hj => h j (List.mem_cons_of_mem _ hj)
    · rw [List.any_cons, z, Bool.true_or]
theorem ve_isET {es : List Expr} {js : List Nat} {tk : Nat} {tp : Pos} (E : EFs C.K us) (hm : X.mg "isinstance" = none) (hn : NmC X C.K es js) (hl : js.length ≤ 100) (ha : PE X e (W C wx .bo 0 m)) (hg : Gl X "isinstance" := by rfl)
    (hs : starEach [e, .Tuple es tk tp] X.env = (false, eval e X.env) :: starEach [.Tuple es tk tp] X.env := by rfl) (hs2 : starEach [.Tuple es tk tp] X.env = (false, eval (.Tuple es tk tp) X.env) :: starEach [] X.env := by rfl) (hpl : (backTo pos (starEach [.Tuple es tk tp] X.env)).any (·.1) = false := by rfl) (hK : X.K = C.K := by rfl) :
    PE X (.Call (.Name "isinstance" p) [e, .Tuple es tk tp] [] pos) (W C wx g k (m1 m (oIsE us js))) := by
  refine (pe_callB call_isErT hg hm PyProof.Rows.boot_isinstance (pa_cons ha (pa_cons (pe_tup hn.pa) pa_nil hs2) hs) (by decide) (by decide) hs hpl).wk fun σ H Q w => ?_
  obtain ⟨F, B, n, ds, S, h⟩ := w
  refine ⟨F, B, n, ds, S, (h.bind fun F1 H1 F2 H2 v d G r => r.tr G).mono fun x H1 ⟨F1, n1, d, G1, S1, ⟨A1, r1, f1⟩, h1⟩ => ?_⟩
  cases d with
  | err c fs =>
    obtain ⟨d2, e2, q⟩ := h1.retE
    unfold oIsE at e2
    dsimp only at e2
    split at e2
    · rename_i hc
      simp only [Bool.and_eq_true, List.contains_iff_mem, List.all_eq_true] at hc
      cases e2
      obtain ⟨a, od, rfl, ha, hd⟩ := err_of (rg_same S1.fh) r1
      refine ⟨by rw [List.length_map, sizeLine_eq]; omega, fun p hp => ?_⟩
      obtain ⟨G2, S2⟩ := S1.newO (o := .tup (js.map fun j => V.ref (ec C.K j))) hp
      have ne : a ≠ p := fun z => by rw [z, hp] at ha; cases ha
      rw [hK]
      refine ⟨a, _, p, od, fs, _, _, js.any (esub c), rfl, by rw [upd_ne ne]; exact ha, hd.mono fun b o e => by rw [upd_ne (ne_of_none e hp)]; exact e, E.ex c hc.1, upd_same, paired_cls js, kitAny_js E hc.1 hc.2, ?_⟩
      exact q (.bl (js.any (esub c))) F1 _ G2 S2 ⟨fun _ => False, .bl, Fr.no⟩
    · cases e2
  | _ =>
    obtain ⟨d2, e2, q⟩ := h1.retE
    cases e2
theorem ve_fldE {f : Str} (E : EFs C.K us) (ha : PE X e (W C wx .bo 0 m)) (hb : attributeBase e f X.env (eval e X.env) = eval e X.env := by rfl) (hK : X.K = C.K := by rfl) : PE X (.Attribute e f pos) (W C wx g k (m1 m (oFldE us f))) := by
  refine (pe_erF ha hb).wk fun σ H Q w => ?_
  obtain ⟨F, B, n, ds, S, h⟩ := w
  refine ⟨F, B, n, ds, S, (h.bind fun F1 H1 F2 H2 v d G r => r.tr G).mono fun x H1 ⟨F1, n1, d, G1, S1, ⟨A1, r1, f1⟩, h1⟩ => ?_⟩
  obtain ⟨d2, e2, q⟩ := h1.sc S1
  cases d with
  | err c fs =>
    unfold oFldE at e2
    dsimp only at e2
    split at e2
    · rename_i hc
      simp only [Bool.and_eq_true, List.contains_iff_mem] at hc
      cases hl : fs.lookup f with
      | none => rw [hl] at e2; cases e2
      | some i =>
        rw [hl] at e2
        cases e2
        obtain ⟨a, od, rfl, ha, hd⟩ := err_of (rg_same S1.fh) r1
        rw [hK]
        exact ⟨a, _, od, fs, i, rfl, ha, hd, E.ex c hc.1, E.no c hc.1 f hc.2, hl, q (.int i) (by simp [scV])⟩
    · cases e2
  | _ => cases e2
end

/-! ### raise -/
def sRaise (c : Nat) : MS := fun n ds => some (.ex c [], n, ds)
def intsE : List D → Option (List Int)
  | [] => some []
  | .int i :: r => (intsE r).map (i :: ·)
  | _ => none
def sRaiseF (c : Nat) (fs : List Str) (ms : Mo (List D)) : MS := sE ms fun as => fun n ds => match intsE as with
  | some is => if is.length = fs.length then some (.ex c ((fs.zip is).reverse), n, ds) else none
  | none => none
/-- an __init__ that stores its fields -/
def spX (K : PySem.W.Frag) (C : Addr) (fs : List Str) : Sp := fun vs H Q E => ∃ (a : Addr) (xs : List V), vs = .ref a :: xs ∧ xs.length = fs.length ∧ H a = some (exo a C none) ∧
  ∀ (d : Addr) (H' : Hp), H d = none → d ≠ a → H' a = some (exo a C (some d)) → H' d = some (exd d (fs.zip xs).reverse) → (∀ b, b ≠ a → b ≠ d → H' b = H b) → Q .non H'
structure EMk (P : Program) (w : World) (K : PySem.W.Frag) (mg : Str → Option Value) (base : Heap) (c : Nat) (fs : List Str) : Prop where
  gl : mg (exN c) = some (.ref (ec K c))
  T : OexC K (ec K c)
  md : ∃ (fI : Addr) (fd : FuncData) (ps : List Str), PySem.W.findIn K (.ref (ec K c)) "__init__" = some (some (.ref fI)) ∧ PySem.W.typeIn K (.ref fI) = some (.type "function") ∧ FnOk P w K mg base (L2.CX P w) 1 fI fd ps (spX K (ec K c) fs) ∧ Binds K fd ps []
section
variable {X : Cx} {C : Ctx} {wx : WX} {kr : Nat} {c : Nat} {x m : Str} {j : Nat} {p p2 pos pos' : Pos} {e : Expr} {es : List Expr} {ms : Mo (List D)} {fs : List Str}
theorem ws_raise (hc : X.calm = true) (tk : Takes X wx) (E : EOwn C.K X.mg c) (hx : x = exN c := by rfl) (hg : Gl X x := by rfl) (hdb : (x == ("__debug__" : Str)) = false := by decide) (hK : X.K = C.K := by rfl) : PS X (.Raise (some (.Call (.Name x p) [.Constant (.str m) j p2] [] pos)) none pos') (WS C wx kr (sRaise c)) :=
  (ps_raise hc tk (pmk_own PySem.F.excBase_ValueError (by rw [hK]; exact E.xc) (by rw [hx]; exact E.gl) (by rw [hK]; exact E.ef.kp) (raises_own (by rw [hK]; exact E.ef.sb) (by rw [hK]; exact E.ef.ty)) hg hdb)).wk fun Ee σ H w => by
    obtain ⟨F, B, n, ds, S, h⟩ := w
    exact h σ F B H none (GoS.refl S.fh) S (.inl ⟨rfl, rfl⟩)
theorem intsE_vs {K : PySem.W.Frag} {G H : Hp} : ∀ {as : List D} {is : List Int} {vs : List V}, intsE as = some is → RpL K G H vs as → vs = is.map V.int
  | [], is, vs, h, r => by
    cases h
    exact List.length_eq_zero_iff.mp r.1
  | d :: as, is, vs, h, r => by
    cases vs with
    | nil => exact absurd r.1 (by simp)
    | cons v vs =>
      obtain ⟨r1, r2⟩ := r.tail
      cases d with
      | int i =>
        simp only [intsE] at h
        cases h2 : intsE as with
        | none => rw [h2] at h; cases h
        | some js =>
          rw [h2] at h
          cases h
          rw [r1.int_, intsE_vs h2 r2]
          rfl
      | _ => cases h
theorem zip_ints : ∀ (fs : List Str) (is : List Int), fs.zip (is.map V.int) = (fs.zip is).map fun p => (p.1, V.int p.2)
  | [], _ => by simp
  | _ :: _, [] => by simp
  | f :: fs, i :: is => by simp [zip_ints fs is]
theorem ws_raiseF (hc : X.calm = true) (tk : Takes X wx) (E : EMk X.prog X.w X.K X.mg X.base c fs) (F0 : ExF X.K (ec X.K c)) (hl : fs.length ≤ 100) (hr : Room 2 X.A) (ha : PA X (e :: es) (WA C wx .bo ms)) (hx : x = exN c := by rfl) (hg : Gl X x := by rfl) (hdb : (x == ("__debug__" : Str)) = false := by decide)
    (he : starEach (e :: es) X.env = (false, eval e X.env) :: starEach es X.env := by rfl) (hpl : (backTo pos (starEach es X.env)).any (·.1) = false := by rfl) (hK : X.K = C.K := by rfl) : PS X (.Raise (some (.Call (.Name x p) (e :: es) [] pos)) none pos') (WS C wx kr (sRaiseF c fs ms)) := by
  obtain ⟨fI, fd, ps, h1, h2, h3, h4⟩ := E.md
  refine (ps_raise hc tk (pmk_oex (dvs := []) (ds := []) E.T h1 h2 h3 hr h4 .nil (passes_call takes0 (fun _ _ _ _ z => z)) hg (by rw [hx]; exact E.gl) ha hdb he hpl)).wk fun Ee σ H w => ?_
  obtain ⟨F, B, n, ds, S, h⟩ := w
  refine ⟨F, B, n, ds, S, (wsl_e (R := RA C .bo) S h).mono fun vs H1 ⟨F1, n1, as, G1, S1, r1, h5⟩ => ?_⟩
  unfold WSL at h5
  cases hi : intsE as with
  | none => simp only [hi] at h5
  | some is =>
    simp only [hi] at h5
    split at h5
    · exact h5.elim
    · rename_i e; split at e <;> cases e
    · rename_i e; split at e <;> cases e
    · rename_i e; split at e <;> cases e
    · rename_i e; split at e <;> cases e
    · rename_i e
      split at e
      · rename_i hlen
        cases e
        have hv := intsE_vs hi r1
        subst hv
        refine ⟨by rw [List.length_map]; omega, fun a hna => ⟨a, is.map V.int, by simp, by rw [List.length_map]; exact hlen, upd_same, fun d H' hd hda k1 k2 k3 => ⟨rfl, d, _, k1, k2, ?_, ?_⟩⟩⟩
        · rw [upd_ne hda] at hd; exact hd
        · rw [upd_ne hda] at hd
          have eH : upd (del H' a) d (.xd (fs.zip (is.map V.int)).reverse) = upd H1 d (.xd (((fs.zip is).reverse).map fun p => (p.1, V.int p.2))) := by
            funext b
            by_cases hb : b = d
            · subst hb
              rw [upd_same, upd_same, zip_ints, List.map_reverse]
            · rw [upd_ne hb, upd_ne hb]
              by_cases hba : b = a
              · subst hba; rw [del_same, hna]
              · rw [del_ne hba, k3 b hba hb, upd_ne hba]
          rw [eH, hK]
          obtain ⟨G2, S2⟩ := S1.newO (o := .xd (((fs.zip is).reverse).map fun p => (p.1, V.int p.2))) hd
          exact h5 σ F1 B _ (some d) ((G1.trans G2).toS S.qB) S2 (.inr ⟨d, rfl, G1.free hd, upd_same⟩)
      · cases e
end
end GW

namespace GW
open PySem L2 PyProof.Rows
/-! ### an error's own __init__ -/
section
variable {P : Program} {w : World} {K : PySem.W.Frag} {mg : Str → Option Value} {base : Heap} {x qual f1 f2 : Str} {params : Arguments} {body : List Stmt} {scope : Scope} {f C : Addr} {fd : FuncData} {N ps : List Str}
theorem def_okX1 (Fu : FunD K x qual params body scope [] [] f fd) (S : FnScope N ps scope) (hps : ps.length = 2) (T : OexC K C) (n1 : PySem.W.findIn K (.ref C) f1 = some none)
    (hb : ∀ (cdv : Value) (A : Around) (outer : List Env) (s : Shared) (H : Hp) (E : XK), PSs (cxOf (L2.CX P w) P w K mg base N qual scope f cdv A outer s H E) body (tOst K f1 (tVar 0) (tVar 1))) : FnOk P w K mg base (L2.CX P w) 1 f fd ps (spX K C [f1]) := by
  refine Fu.ok S (fun vs H Q E h => ?_) (fun cdv A outer s H vs Q E hr h => ⟨_, hb cdv A outer s H E, ?_⟩)
  · obtain ⟨a, xs, rfl, h2, _⟩ := h
    rw [hps]; simp at h2; simp [h2]
  · obtain ⟨a, xs, rfl, h2, h3, h4⟩ := h
    match xs, h2 with
    | [y], _ =>
      refine ⟨y, rfl, .ref a, rfl, a, C, rfl, T, n1, .inl ⟨h3, fun dx hd hda => h4 dx _ hd hda upd_same ?_ fun b hb hbd => ?_⟩⟩
      · rw [upd_ne hda, upd_same]; rfl
      · rw [upd_ne hb, upd_ne hbd]
theorem def_okX2 (Fu : FunD K x qual params body scope [] [] f fd) (S : FnScope N ps scope) (hps : ps.length = 3) (T : OexC K C) (n1 : PySem.W.findIn K (.ref C) f1 = some none) (n2 : PySem.W.findIn K (.ref C) f2 = some none)
    (hb : ∀ (cdv : Value) (A : Around) (outer : List Env) (s : Shared) (H : Hp) (E : XK), PSs (cxOf (L2.CX P w) P w K mg base N qual scope f cdv A outer s H E) body (tSeq (tOst K f1 (tVar 0) (tVar 1)) (tOst K f2 (tVar 0) (tVar 2)))) : FnOk P w K mg base (L2.CX P w) 1 f fd ps (spX K C [f1, f2]) := by
  refine Fu.ok S (fun vs H Q E h => ?_) (fun cdv A outer s H vs Q E hr h => ⟨_, hb cdv A outer s H E, ?_⟩)
  · obtain ⟨a, xs, rfl, h2, _⟩ := h
    rw [hps]; simp at h2; simp [h2]
  · obtain ⟨a, xs, rfl, h2, h3, h4⟩ := h
    match xs, h2 with
    | [y, z], _ =>
      refine ⟨y, rfl, .ref a, rfl, a, C, rfl, T, n1, .inl ⟨h3, fun dx hd hda => ⟨z, rfl, .ref a, rfl, a, C, rfl, T, n2, .inr ⟨dx, _, upd_same, (by rw [upd_ne hda, upd_same]), by simp, h4 dx _ hd hda ?_ ?_ fun b hb hbd => ?_⟩⟩⟩⟩
      · rw [upd_ne (Ne.symm hda), upd_same]
      · rw [upd_same]; rfl
      · rw [upd_ne hbd, upd_ne hb, upd_ne hbd]
end
/-! ### try -/
abbrev HdM := Nat × Option Nat × MS
def unM (i : Nat) : Option (Fl × Int × DS) → Option (Fl × Int × DS)
  | some (.nx, n, ds) => some (.nx, n, ds.set i none)
  | some (.bk, n, ds) => some (.bk, n, ds.set i none)
  | some (.ct, n, ds) => some (.ct, n, ds.set i none)
  | r => r
def sHds (us : List Nat) (c : Nat) (fs : List (Str × Int)) : List HdM → MS
  | [] => fun n ds => some (.ex c fs, n, ds)
  | (k, none, ms) :: r => fun n ds => if us.contains c && us.contains k then (if esub c k then ms n ds else sHds us c fs r n ds) else none
  | (k, some i, ms) :: r => fun n ds => if us.contains c && us.contains k then (if esub c k then unM i (ms n (ds.set i (some (.err c fs)))) else sHds us c fs r n ds) else none
def sTry (us : List Nat) (mb : MS) (hs : List HdM) : MS := fun n ds => match mb n ds with
  | some (.ex c fs, n', ds') => sHds us c fs hs n' ds'
  | r => r
def toHd (C : Ctx) (wx : WX) (kr : Nat) : HdM → Hd := fun h => (.ref (ec C.K h.1), h.2.1, WS C wx kr h.2.2)
section
variable {X : Cx} {C : Ctx} {wx : WX} {kr : Nat} {us : List Nat} {mb : MS} {hs : List HdM} {h₀ : ExceptHandler} {hds : List ExceptHandler} {body : List Stmt} {pos : Pos}
theorem sim_unset {F H : Hp} {B : AS} {σ : L2.St} {n : Int} {ds : DS} {i : Nat} (S : Sim C F B σ H n ds) (hi : C.pn i = none) : Sim C F B (σ.set i none) H n (ds.set i none) :=
  S.wipe (vs := [i]) fun j hj => by
    rw [List.mem_singleton] at hj
    subst hj; exact hi
/-- the error that is caught is known from then on -/
theorem caught {F H F' H' : Hp} {B B' : AS} {σ : L2.St} {n : Int} {ds : DS} {i c : Nat} {od : Option Addr} {fs : List (Str × Int)} {a : Addr} (G : GoS B F H B' F' H') (S : Sim C F' B' σ H' n ds) (x : ExR H H' od fs) (ha : H' a = none) (hi : C.pn i = none) :
    ∃ F2 B2, GoS B F H B2 F2 (upd H' a (ErO (ec C.K c) od a)) ∧ Sim C F2 B2 (σ.set i (some (.ref a))) (upd H' a (ErO (ec C.K c) od a)) n (ds.set i (some (.err c fs))) := by
  -- the dict, where there is one, stands from then on
  obtain ⟨F1, s1, s2, hx, nd⟩ : ∃ F1 : Hp, Same F' F1 ∧ Same F1 H' ∧ ErD F1 od fs ∧ ∀ b, F1 b ≠ F' b → H b = none ∧ ∃ o, H' b = some o ∧ GW.Mk o = false := by
    rcases x with ⟨rfl, rfl⟩ | ⟨d, rfl, h1, h2⟩
    · exact ⟨F', Same.refl _, S.fh, .inl ⟨rfl, rfl⟩, fun b z => absurd rfl z⟩
    · refine ⟨upd F' d (.xd (fs.map fun p => (p.1, V.int p.2))), fun b o e => ?_, fun b o e => ?_, .inr ⟨d, rfl, upd_same⟩, fun b z => ?_⟩
      · by_cases hb : b = d
        · subst hb
          have := S.fh _ _ e
          rw [h2] at this
          rw [upd_same]; exact this
        · rw [upd_ne hb]; exact e
      · by_cases hb : b = d
        · subst hb
          rw [upd_same] at e
          rw [h2]; exact e
        · rw [upd_ne hb] at e; exact S.fh _ _ e
      · by_cases hb : b = d
        · subst hb
          exact ⟨h1, _, h2, rfl⟩
        · exact absurd (upd_ne hb) z
  have F1a : F1 a = none := none_some (fun b o e => ⟨o, s2 b o e⟩) ha
  have old : ∀ b o, H' b = some o → upd H' a (ErO (ec C.K c) od a) b = some o := fun b o e => by rw [upd_ne (ne_of_none e ha)]; exact e
  have sF : Same F1 (upd F1 a (ErO (ec C.K c) od a)) := fun b o e => by rw [upd_ne (ne_of_none e F1a)]; exact e
  have sH : Same (upd F1 a (ErO (ec C.K c) od a)) (upd H' a (ErO (ec C.K c) od a)) := fun b o e => by
    by_cases hb : b = a
    · subst hb; rw [upd_same] at e ⊢; exact e
    · rw [upd_ne hb] at e ⊢; exact s2 _ _ e
  have inB : ∀ b, (∃ o, H' b = some o ∧ GW.Mk o = true) → F' b = none → upd F1 a (ErO (ec C.K c) od a) b = none := fun b ⟨o, h1, h2⟩ h3 => by
    rw [upd_ne (ne_of_none h1 ha)]
    by_cases e : F1 b = F' b
    · rw [e]; exact h3
    · obtain ⟨_, o', h4, h5⟩ := nd b e
      rw [h1] at h4; cases h4
      rw [h2] at h5; cases h5
  have G2 : GoS B F H B' (upd F1 a (ErO (ec C.K c) od a)) (upd H' a (ErO (ec C.K c) od a)) := {
    ff := (G.ff.trans s1).trans sF
    fh := sH
    hh := fun b o e n => old _ _ (G.hh b o e n)
    ht := fun b o e n => old _ _ (G.ht b o e n)
    nf := fun b o n e z => by
      obtain ⟨o', e'⟩ := G.dm b o e
      rw [upd_ne (ne_of_none e' ha)]
      by_cases q : F1 b = F' b
      · rw [q]; exact G.nf b o n e z
      · have := (nd b q).1
        rw [e] at this; cases this
    bb := G.bb
    dm := fun b o e => by
      obtain ⟨o', e'⟩ := G.dm b o e
      exact ⟨o', old _ _ e'⟩ }
  have S2 : Sim C (upd F1 a (ErO (ec C.K c) od a)) B' σ (upd H' a (ErO (ec C.K c) od a)) n ds := {
    fh := sH
    bok := fun b hb => by
      obtain ⟨h1, o, h2, h3⟩ := S.bok b hb
      exact ⟨inB b ⟨o, h2, h3⟩ h1, o, old _ _ h2, h3⟩
    cell := fun q hq => ⟨(S.cell q hq).1, old _ _ (S.cell q hq).2⟩
    pin := S.pin
    len := S.len
    rep := by
      obtain ⟨A, h1, h2, h3⟩ := S.rep
      refine ⟨A, fun j d e => ?_, h2, h3⟩
      obtain ⟨v, e1, r⟩ := h1 j d e
      exact ⟨v, e1, r.mono (s1.trans sF) (fun b o e _ => old _ _ e) fun b o _ e => old _ _ e⟩ }
  have r : Rp C.K (upd F1 a (ErO (ec C.K c) od a)) (upd H' a (ErO (ec C.K c) od a)) (C.T i) (.ref a) (.err c fs) (fun _ => False) := .err upd_same (hx.mono sF)
  refine ⟨_, _, ⟨G2.ff, G2.fh, G2.hh, G2.ht, G2.nf, fun b hb => ?_, G2.dm⟩, S2.set (H0 := H) r (fun _ h => h.elim) hi (fun _ h => h.elim)⟩
  rcases hb with hb | hb
  · exact G2.bb b hb
  · exact hb.elim
theorem hds_of {F H F' H' : Hp} {B B' : AS} {σ' : L2.St} {n n' : Int} {ds ds' : DS} {D : Ends} {c : Nat} {fs : List (Str × Int)} {od : Option Addr} (EF : EFs C.K us) (G : GoS B F H B' F' H') (S' : Sim C F' B' σ' H' n' ds') (xr : ExR H H' od fs) :
    ∀ {hs : List HdM}, (∀ h ∈ hs, ∀ i, h.2.1 = some i → C.pn i = none) → WSL C wx kr (fun _ _ => sHds us c fs hs n' ds') F B n ds H D → wT C.K wx D (hs.map (toHd C wx kr)) (.ref (ec C.K c)) od σ' H'
  | [], _, h => h σ' F' B' H' od G S' xr
  | (k, none, ms) :: r, hp, h => by
    unfold sHds at h
    by_cases hc : (us.contains c && us.contains k) = true
    · simp only [hc, if_true] at h
      simp only [Bool.and_eq_true, List.contains_iff_mem] at hc
      refine ⟨esub c k, EF.exm c hc.1 k hc.2, fun z => ?_, fun z => ?_⟩
      · simp only [z, if_true] at h
        exact ⟨F', B', n', ds', S', h.tr G rfl⟩
      · simp only [z, Bool.false_eq_true, if_false] at h
        exact hds_of EF G S' xr (fun q hq => hp q (List.mem_cons_of_mem _ hq)) h
    · simp only [hc, if_false] at h
      exact h.elim
  | (k, some i, ms) :: r, hp, h => by
    unfold sHds at h
    by_cases hc : (us.contains c && us.contains k) = true
    · simp only [hc, if_true] at h
      simp only [Bool.and_eq_true, List.contains_iff_mem] at hc
      have hi : C.pn i = none := hp _ List.mem_cons_self i rfl
      refine ⟨esub c k, EF.exm c hc.1 k hc.2, fun z => ⟨_, rfl, fun a ha => ?_⟩, fun z => ?_⟩
      · simp only [z, if_true] at h
        obtain ⟨F2, B2, G2, S2⟩ := caught (c := c) G S' xr ha hi
        refine ⟨F2, B2, n', _, S2, ?_⟩
        show WSL C wx kr ms _ _ _ _ _ _
        unfold WSL at h ⊢
        cases e : ms n' (ds'.set i (some (.err c fs))) with
        | none => simp only [e, unM] at h
        | some pp =>
          obtain ⟨fl, n3, ds3⟩ := pp
          cases fl with
          | nx =>
            simp only [e, unM] at h
            exact fun σ6 F6 B6 H6 G6 S6 => h _ F6 B6 H6 (G2.trans G6) (sim_unset S6 hi)
          | bk =>
            simp only [e, unM] at h
            exact fun σ6 F6 B6 H6 G6 S6 => h _ F6 B6 H6 (G2.trans G6) (sim_unset S6 hi)
          | ct =>
            simp only [e, unM] at h
            exact fun σ6 F6 B6 H6 G6 S6 => h _ F6 B6 H6 (G2.trans G6) (sim_unset S6 hi)
          | rt d =>
            simp only [e, unM] at h
            exact RtP.tr G2 h
          | ex c2 fs2 =>
            simp only [e, unM] at h
            exact fun σ6 F6 B6 H6 od2 G6 S6 x6 => h σ6 F6 B6 H6 od2 (G2.trans G6) S6 (x6.trS G2)
      · simp only [z, Bool.false_eq_true, if_false] at h
        exact hds_of EF G S' xr (fun q hq => hp q (List.mem_cons_of_mem _ hq)) h
    · simp only [hc, if_false] at h
      exact h.elim
theorem ws_try (hst : X.stack = X.env :: X.outer) (hf : X.env.frame = some X.env.locals) (hex : X.ex = []) (hN : X.N.Nodup) (tk : Takes X wx) (EF : EFs C.K us) (hp : ∀ h ∈ hs, ∀ i, h.2.1 = some i → C.pn i = none)
    (hb : ∀ (W : WX) (pn : List (Addr × Obj)) (xe : Value → Shared → Prop), Takes (X.tr pn xe) W → PassesOwn (model X.prog X.w) X.A X.env xe → PSs (X.tr pn xe) body (WS C W kr mb))
    (hh : HdsT X (h₀ :: hds) (hs.map (toHd C wx kr))) (hK : X.K = C.K := by rfl) : PS X (.Try body (h₀ :: hds) [] [] pos) (WS C wx kr (sTry us mb hs)) := (ps_tryT hst hf hex hN tk hb hh).wk fun D σ H w => by
  obtain ⟨F, B, n, ds, S, h⟩ := w
  refine ⟨F, B, n, ds, S, ?_⟩
  rw [hK]
  have h0 := h
  unfold WSL at h ⊢
  cases e : mb n ds with
  | none => simp only [sTry, e] at h
  | some pp =>
    obtain ⟨fl, n', ds'⟩ := pp
    cases fl with
    | nx => simp only [sTry, e] at h; exact h
    | bk => simp only [sTry, e] at h; exact h
    | ct => simp only [sTry, e] at h; exact h
    | rt d => simp only [sTry, e] at h; exact h
    | ex c fs =>
      intro σ' F' B' H' od G S' xr
      have e2 : sTry us mb hs n ds = sHds us c fs hs n' ds' := by unfold sTry; rw [e]
      exact hds_of (n := n) (ds := ds) EF G S' xr hp (WSL.tr (GoS.refl S.fh) e2 h0)
end
end GW

namespace GW
open PySem L2 PyProof.Rows
/-! ### text times number -/
def repS (x : Str) (n : Nat) : Str := ⟨((List.replicate n x.cps.toList).flatten).toArray⟩
theorem foldl_repA (a : Array Nat) : ∀ (n : Nat) (b : Array Nat), (List.replicate n a).foldl (· ++ ·) b = b ++ ((List.replicate n a.toList).flatten).toArray
  | 0, b => by simp
  | n + 1, b => by
    rw [List.replicate_succ, List.foldl_cons, foldl_repA a n, List.replicate_succ, List.flatten_cons]
    apply Array.ext'
    simp
def rMulS : R2 := fun x y H Q => ∃ (z : Str) (n : Int), x = .str z ∧ y = .int n ∧ -(2 ^ 62) ≤ n ∧ n ≤ 4096 ∧ z.length ≤ 1000 ∧ Q (.str (repS z n.toNat)) H
theorem repS_len (z : Str) (n : Nat) : (repS z n).length = n * z.length := by
  show (((List.replicate n z.cps.toList).flatten).toArray).size = n * z.cps.size
  simp
theorem op_mulS {X : Cx} : OpR X (binaryOp .Mult) rMulS := by
  intro pins s σ H x y v u Q I rx ry h
  obtain ⟨z, n, rfl, rfl, h1, h2, h3, q⟩ := h
  obtain ⟨t, rfl⟩ := rx
  obtain ⟨t', rfl⟩ := ry
  have h5 : n.toNat ≤ 4096 := by omega
  have hlen : z.length * n.toNat ≤ 1000 * 4096 := Nat.mul_le_mul h3 h5
  have key : ∀ w tk, w = repS z n.toNat → Inv X pins σ H { s with toks := tk } → EP X pins σ Q (.str w s.toks) { s with toks := tk } := fun w tk e I' => ⟨.str (repS z n.toNat), H, I', ⟨s.toks, by rw [e]⟩, q⟩
  refine PySem.P.mul_str ?_ ?_ ?_ ?_
  · rw [decide_eq_false (show ¬ n < -(2 ^ 63 : Int) by omega), decide_eq_false (show ¬ n ≥ 2 ^ 63 by omega)]; rfl
  · intro hn _ hc
    have : (z.length : Int) ≤ (2 ^ 63 - 1) / n := by
      rw [Int.le_ediv_iff_mul_le (by omega)]
      have : (z.length : Int) * n ≤ 1000 * 4096 := Int.mul_le_mul (by omega) (by omega) (by omega) (by decide)
      omega
    omega
  · intro hn _
    unfold PySem.Builtin.Str.tooLong
    refine decide_eq_false ?_
    rw [sizeLine_eq]
    omega
  · by_cases hn : n < 1
    · rw [if_pos hn]
      refine ⟨by decide, ?_⟩
      refine key _ _ ?_ (I.tok _)
      have : n.toNat = 0 := by omega
      rw [this]; rfl
    · rw [if_neg hn]
      by_cases hc : (n == 1 || z.length == 0) = true
      · rw [if_pos hc]
        refine ⟨.str (repS z n.toNat), H, I, ⟨t, ?_⟩, q⟩
        have e : repS z n.toNat = z := by
          unfold repS
          rcases (Bool.or_eq_true _ _).mp hc with hc | hc
          · have : n.toNat = 1 := by have := beq_iff_eq.mp hc; omega
            rw [this]; simp
          · have h0 : z.cps.toList = [] := by
              have : z.cps.size = 0 := beq_iff_eq.mp hc
              exact List.length_eq_zero_iff.mp (by simpa using this)
            rw [h0]
            have : ((List.replicate n.toNat ([] : List Nat)).flatten) = [] := by simp
            rw [this]
            cases z with
            | mk c =>
              have : c.toList = [] := h0
              congr 1
              apply Array.ext'
              simpa using this.symm
        rw [e]
      · rw [if_neg hc]
        refine ⟨?_, key _ _ ?_ (I.tok _)⟩
        · rw [foldl_repA]
          show (#[] ++ ((List.replicate n.toNat z.cps.toList).flatten).toArray).size ≤ _
          have := repS_len z n.toNat
          have e2 : (#[] ++ ((List.replicate n.toNat z.cps.toList).flatten).toArray).size = (repS z n.toNat).length := by
            rw [Array.size_append]; show 0 + _ = _; rw [Nat.zero_add]; rfl
          rw [e2, this, Nat.mul_comm]
          first | omega | (rw [sizeLine_eq]; omega)
        · rw [foldl_repA]
          unfold repS
          simp
def oMulS (a b : D) : Option D := match a, b with
  | .str z, .int n => if n.toNat ≤ 4096 ∧ -4096 ≤ n ∧ z.length ≤ 1000 then some (.str (repS z n.toNat)) else none
  | _, _ => none
section
variable {K : PySem.W.Frag}
theorem os_mulS : OpS K rMulS oMulS := by
  intro G H x y a b d A A' hs ra rb e
  unfold oMulS at e
  split at e
  · rename_i z n
    split at e
    · rename_i h
      cases e
      exact ⟨_, rfl, fun Q q => ⟨z, n, ra.str_, rb.int_, by omega, by omega, h.2.2, q⟩⟩
    · cases e
  · cases e
end
/-! ### == of nested things -/
mutual
def toP : D → Option PyData
  | .non => some .none
  | .bl b => some (.bool b)
  | .int i => some (.int i)
  | .str x => some (.str x)
  | .tup ds => (toPs ds).map .tuple
  | .lst ds => (toPs ds).map .list
  | _ => none
def toPs : List D → Option (List PyData)
  | [] => some []
  | d :: r => match toP d, toPs r with
    | some p, some q => some (p :: q)
    | _, _ => none
end
theorem toPs_get : ∀ {ds : List D} {ps : List PyData}, toPs ds = some ps → ds.length = ps.length ∧ ∀ (i : Nat) d, ds[i]? = some d → ∃ p, ps[i]? = some p ∧ toP d = some p
  | [], ps, h => by
    simp only [toPs, Option.some.injEq] at h
    subst h
    exact ⟨rfl, fun i d e => by cases e⟩
  | d :: r, ps, h => by
    simp only [toPs] at h
    cases h1 : toP d with
    | none => rw [h1] at h; cases h
    | some p =>
      cases h2 : toPs r with
      | none => rw [h1, h2] at h; cases h
      | some q =>
        rw [h1, h2] at h
        cases h
        obtain ⟨h3, h4⟩ := toPs_get h2
        refine ⟨by simp [h3], fun i d' e => ?_⟩
        cases i with
        | zero =>
          simp only [List.getElem?_cons_zero, Option.some.injEq] at e
          subst e
          exact ⟨p, rfl, h1⟩
        | succ i => exact h4 i d' (by simpa using e)
theorem dpAll_of {K : PySem.W.Frag} {H : Hp} : ∀ {vs : List V} {ps : List PyData}, vs.length = ps.length → (∀ (i : Nat) v p, vs[i]? = some v → ps[i]? = some p → L2.Dp K H v p) → L2.DpAll K H vs ps
  | [], [], _, _ => .nil
  | [], _ :: _, h, _ => by cases h
  | _ :: _, [], h, _ => by cases h
  | v :: vs, p :: ps, h, c => .cons (c 0 v p rfl rfl) (dpAll_of (by simpa using h) fun i v p a b => c (i + 1) v p (by simpa using a) (by simpa using b))
theorem dp_of {K : PySem.W.Frag} {G H : Hp} {k : Nat} {v : V} {d : D} {A : AS} (hs : Same G H) (r : Rp K G H k v d A) (hk : k = 0) : ∀ {p : PyData}, toP d = some p → L2.Dp K H v p := by
  induction r with
  | non => intro p h; simp only [toP, Option.some.injEq] at h; subst h; exact .non
  | bl => intro p h; simp only [toP, Option.some.injEq] at h; subst h; exact .bl _
  | int => intro p h; simp only [toP, Option.some.injEq] at h; subst h; exact .int _
  | str => intro p h; simp only [toP, Option.some.injEq] at h; subst h; exact .str _
  | tup hh l c ih =>
    intro p h
    rename_i ds
    simp only [toP] at h
    cases h2 : toPs ds with
    | none => rw [h2] at h; cases h
    | some ps =>
      rw [h2] at h
      cases h
      obtain ⟨h3, h4⟩ := toPs_get h2
      refine .tup hh (dpAll_of (l.trans h3) fun i v p a b => ?_)
      have hlt : i < ds.length := by rw [h3]; exact (List.getElem?_eq_some_iff.mp b).1
      obtain ⟨q, h5, h6⟩ := h4 i ds[i] (List.getElem?_eq_getElem hlt)
      rw [b] at h5; cases h5
      exact ih i v _ a (List.getElem?_eq_getElem hlt) rfl h6
  | lst hh l c ih =>
    intro p h
    rename_i ds
    simp only [toP] at h
    cases h2 : toPs ds with
    | none => rw [h2] at h; cases h
    | some ps =>
      rw [h2] at h
      cases h
      obtain ⟨h3, h4⟩ := toPs_get h2
      refine .lst (sqL_mono hh hs) (dpAll_of (l.trans h3) fun i v p a b => ?_)
      have hlt : i < ds.length := by rw [h3]; exact (List.getElem?_eq_some_iff.mp b).1
      obtain ⟨q, h5, h6⟩ := h4 i ds[i] (List.getElem?_eq_getElem hlt)
      rw [b] at h5; cases h5
      exact ih i v _ a (List.getElem?_eq_getElem hlt) rfl h6
  | lstO => cases hk
  | dct => intro p h; cases h
  | dctO => cases hk
  | obj => intro p h; cases h
  | objO => cases hk
  | err => intro p h; cases h
def oEqQ (a b : D) : Option D := match toP a, toP b with
  | some p, some q => if (SeqAt.shaped p && SeqAt.shaped q) = true then some (.bl (PyData.eqv p q)) else none
  | _, _ => none
def oNeQ (a b : D) : Option D := match toP a, toP b with
  | some p, some q => if (SeqAt.shaped p && SeqAt.shaped q) = true then some (.bl (!PyData.eqv p q)) else none
  | _, _ => none
theorem os_eqQ {K : PySem.W.Frag} : OpS K (rEqD K) oEqQ := by
  intro G H x y a b d A A' hs ra rb e
  unfold oEqQ at e
  split at e
  · rename_i p q h1 h2
    split at e
    · rename_i hc
      cases e
      simp only [Bool.and_eq_true] at hc
      exact ⟨_, rfl, fun Q z => ⟨p, q, dp_of hs ra rfl h1, dp_of hs rb rfl h2, hc.1, hc.2, z⟩⟩
    · cases e
  · cases e
theorem os_neQ {K : PySem.W.Frag} : OpS K (rNeD K) oNeQ := by
  intro G H x y a b d A A' hs ra rb e
  unfold oNeQ at e
  split at e
  · rename_i p q h1 h2
    split at e
    · rename_i hc
      cases e
      simp only [Bool.and_eq_true] at hc
      exact ⟨_, rfl, fun Q z => ⟨p, q, dp_of hs ra rfl h1, dp_of hs rb rfl h2, hc.1, hc.2, z⟩⟩
    · cases e
  · cases e
theorem hu64 {A : Around} {k : Nat} (hr : Room k A) : A.units + 64 < cLine := by have := hr.un; omega
/-! ### the module's own names -/
section
variable {X : Cx} {C : Ctx} {wx : WX} {g : Rg} {k : Nat} {x : Str} {pos p : Pos} {e : Expr} {es : List Expr} {ms : Mo (List D)}
/-- a text, a number -/
theorem ve_gstr {z : Str} (hm : ∃ t, X.mg x = some (.str z t)) (hg : Gl X x := by rfl) (hd : (x == ("__debug__" : Str)) = false := by decide) : PE X (.Name x pos) (W C wx g k (mC (.str z))) := by
  obtain ⟨t, hm⟩ := hm
  refine (pe_glob (v := .str z) hg hm ⟨t, rfl⟩ hd).wk fun σ H Q w => ?_
  obtain ⟨F, B, n, ds, S, h⟩ := w
  obtain ⟨d, e, q⟩ := WL.retE (R := RV C g k) (o := some (D.str z)) h
  cases e
  exact q (.str z) F H (GoC.refl S.fh) S ⟨fun _ => False, .str, Fr.no⟩
/-- a tuple of texts that the text of the module laid -/
structure GTup (K : PySem.W.Frag) (mg : Str → Option Value) (x : Str) (zs : List Str) : Prop where
  gl : mg x = some (.ref (He.ga K x))
  sq : ∀ H, SqT K H (He.ga K x) (zs.map V.str)
theorem ve_gtup {zs : List Str} (G0 : GTup C.K X.mg x zs) (hg : Gl X x := by rfl) (hd : (x == ("__debug__" : Str)) = false := by decide) : PE X (.Name x pos) (W C wx g k (mC (.tup (zs.map D.str)))) := by
  refine (pe_glob (v := .ref (He.ga C.K x)) hg G0.gl rfl hd).wk fun σ H Q w => ?_
  obtain ⟨F, B, n, ds, S, h⟩ := w
  obtain ⟨d, e, q⟩ := WL.retE (R := RV C g k) (o := some (D.tup (zs.map D.str))) h
  cases e
  refine q (.ref (He.ga C.K x)) F H (GoC.refl S.fh) S ⟨fun _ => False, .tup (G0.sq H) (by simp) (fun i v d a b => ?_), Fr.no⟩
  rw [List.getElem?_map] at a b
  cases h2 : zs[i]? with
  | none => rw [h2] at a; cases a
  | some z => rw [h2] at a b; cases a; cases b; exact .str
/-! ### min, max of two numbers -/
def oMin2 : List D → Option D
  | [.int i, .int j] => some (.int (if j < i then j else i))
  | _ => none
def oMax2 : List D → Option D
  | [.int i, .int j] => some (.int (if j > i then j else i))
  | _ => none
theorem ve_min2 (hm : X.mg "min" = none) (ha : PA X (e :: es) (WA C wx .bo ms)) (hc : X.calm = true := by rfl) (hg : Gl X "min" := by rfl)
    (hs : starEach (e :: es) X.env = (false, eval e X.env) :: starEach es X.env := by rfl) (hpl : (backTo pos (starEach es X.env)).any (·.1) = false := by rfl) : PE X (.Call (.Name "min" p) (e :: es) [] pos) (W C wx g k (mCB ms oMin2)) := by
  refine (pe_callB (call_min2 hc) hg hm PyProof.Rows.boot_min ha (by decide) (by decide) hs hpl).wk fun σ H Q w => ?_
  obtain ⟨F, B, n, ds, S, h⟩ := w
  refine ⟨F, B, n, ds, S, (h.bind fun F1 H1 F2 H2 v d G r => r.tr G).mono fun xs H1 ⟨F1, n1, da, G1, S1, r1, h1⟩ => ?_⟩
  obtain ⟨d, e, q⟩ := h1.sc S1
  unfold oMin2 at e
  split at e
  · rename_i i j
    cases e
    obtain ⟨v, v', rfl, ra, rb⟩ := r1.two
    exact ⟨i, j, by rw [ra.int_, rb.int_], q _ rfl⟩
  · cases e
theorem ve_max2 (hm : X.mg "max" = none) (ha : PA X (e :: es) (WA C wx .bo ms)) (hc : X.calm = true := by rfl) (hg : Gl X "max" := by rfl)
    (hs : starEach (e :: es) X.env = (false, eval e X.env) :: starEach es X.env := by rfl) (hpl : (backTo pos (starEach es X.env)).any (·.1) = false := by rfl) : PE X (.Call (.Name "max" p) (e :: es) [] pos) (W C wx g k (mCB ms oMax2)) := by
  refine (pe_callB (call_max2 hc) hg hm PyProof.Rows.boot_max ha (by decide) (by decide) hs hpl).wk fun σ H Q w => ?_
  obtain ⟨F, B, n, ds, S, h⟩ := w
  refine ⟨F, B, n, ds, S, (h.bind fun F1 H1 F2 H2 v d G r => r.tr G).mono fun xs H1 ⟨F1, n1, da, G1, S1, r1, h1⟩ => ?_⟩
  obtain ⟨d, e, q⟩ := h1.sc S1
  unfold oMax2 at e
  split at e
  · rename_i i j
    cases e
    obtain ⟨v, v', rfl, ra, rb⟩ := r1.two
    exact ⟨i, j, by rw [ra.int_, rb.int_], q _ rfl⟩
  · cases e
end
end GW

namespace GW
open PySem L2 PyProof.Rows
/-! ### errors reckoned -/
section
variable {n n1 : Int} {ds : DS} {us : List Nat} {c k : Nat} {fs : List (Str × Int)}
@[simp] theorem sv_raise : sRaise c n ds = some (.ex c [], n, ds) := (rfl)
@[simp] theorem sv_raiseF {fl : List Str} {ms : Mo (List D)} : sRaiseF c fl ms n ds = sE ms (fun as => fun n ds => match intsE as with
  | some is => if is.length = fl.length then some (.ex c ((fl.zip is).reverse), n, ds) else none
  | none => none) n ds := (rfl)
@[simp] theorem ov_ints0 : intsE [] = some [] := (rfl)
@[simp] theorem ov_ints {i : Int} {r : List D} : intsE (.int i :: r) = (intsE r).map (i :: ·) := (rfl)
theorem try_ex {mb : MS} {hs : List HdM} {n' : Int} {ds' : DS} (h : mb n ds = some (.ex c fs, n', ds')) : sTry us mb hs n ds = sHds us c fs hs n' ds' := by unfold sTry; rw [h]
theorem try_nx {mb : MS} {hs : List HdM} {n' : Int} {ds' : DS} (h : mb n ds = some (.nx, n', ds')) : sTry us mb hs n ds = some (.nx, n', ds') := by unfold sTry; rw [h]
@[simp] theorem sv_hds0 : sHds us c fs [] n ds = some (.ex c fs, n, ds) := (rfl)
@[simp] theorem sv_hdsN {ms : MS} {r : List HdM} : sHds us c fs ((k, none, ms) :: r) n ds = if us.contains c && us.contains k then (if esub c k then ms n ds else sHds us c fs r n ds) else none := (rfl)
@[simp] theorem sv_hdsS {i : Nat} {ms : MS} {r : List HdM} : sHds us c fs ((k, some i, ms) :: r) n ds = if us.contains c && us.contains k then (if esub c k then unM i (ms n (ds.set i (some (.err c fs)))) else sHds us c fs r n ds) else none := (rfl)
@[simp] theorem sv_un {i : Nat} {n' : Int} {ds' : DS} : unM i (some (.nx, n', ds')) = some (.nx, n', ds'.set i none) := (rfl)
@[simp] theorem ov_isE {js : List Nat} : oIsE us js (.err c fs) = if us.contains c && js.all us.contains then some (.bl (js.any (esub c))) else none := (rfl)
@[simp] theorem ov_isV : oIsV us (.err c fs) = if us.contains c then some (.bl true) else none := (rfl)
@[simp] theorem ov_fldE {f : Str} : oFldE us f (.err c fs) = if us.contains c && fldN.contains f then (fs.lookup f).map .int else none := (rfl)
theorem fn0_ex {N : Nat} {ms : MS} {as : List D} (h : outF (ms 0 (startD N as)) = some (.ex c fs, 0)) : fn0 N ms as = some (.ex c fs) := by
  unfold fn0; rw [h]; rfl
theorem drop_of {m : M} {d : D} (h : m n ds = some (.ok d, n1)) : sDrop m n ds = some (.nx, n1, ds) := E_ok h (Eq.refl _)
theorem drop_ex {m : M} (h : m n ds = some (.ex c fs, n1)) : sDrop m n ds = some (.ex c fs, n1, ds) := by
  show sE m _ n ds = _
  unfold sE; rw [h]
theorem set_ex {i : Nat} {m : M} (h : m n ds = some (.ex c fs, n1)) : sSet i m n ds = some (.ex c fs, n1, ds) := by
  show sE m _ n ds = _
  unfold sE; rw [h]
end
/-! ### == of pairs, mins, texts times numbers -/
theorem shaped_int2 (a b : Int) : SeqAt.shaped (.tuple [.int a, .int b]) = true := (rfl)
@[simp] theorem ov_eqQ2 {a b c d : Int} : oEqQ (.tup [.int a, .int b]) (.tup [.int c, .int d]) = some (.bl (decide (a = c) && decide (b = d))) := by
  have e : oEqQ (.tup [.int a, .int b]) (.tup [.int c, .int d]) = some (.bl ((a == c) && ((b == d) && true))) := (rfl)
  rw [e]
  rw [Bool.and_true]
  have h : ∀ x y : Int, (x == y) = decide (x = y) := fun x y => by rw [Bool.eq_iff_iff]; simp
  rw [h, h]
@[simp] theorem ov_min2 {i j : Int} : oMin2 [.int i, .int j] = some (.int (if j < i then j else i)) := (rfl)
@[simp] theorem ov_max2 {i j : Int} : oMax2 [.int i, .int j] = some (.int (if j > i then j else i)) := (rfl)
theorem repS_tx (c : Nat) : ∀ n : Nat, repS (tx [c]) n = tx (List.replicate n c) := fun n => by
  unfold repS
  have : ((List.replicate n (tx [c]).cps.toList).flatten) = List.replicate n c := by
    induction n with
    | zero => rfl
    | succ n ih => rw [List.replicate_succ, List.flatten_cons, ih, List.replicate_succ]; rfl
  rw [this]
theorem ov_mulS {c : Nat} {n : Int} (h0 : 0 ≤ n) (h1 : n ≤ 4096) : oMulS (.str (tx [c])) (.int n) = some (.str (tx (List.replicate n.toNat c))) := by
  show (if n.toNat ≤ 4096 ∧ -4096 ≤ n ∧ (tx [c]).length ≤ 1000 then some (D.str (repS (tx [c]) n.toNat)) else none) = _
  rw [if_pos ⟨by omega, by omega, show 1 ≤ 1000 by decide⟩, repS_tx]
/-- a loop over two parts -/
theorem forL_append {tg : Tg} {body : MS} : ∀ {as bs : List D} {n : Int} {ds : DS} {n1 : Int} {ds1 : DS}, forL tg body as n ds = some (.nx, n1, ds1) → (∀ d ∈ as, ∀ n ds ds2 n' ds', tg.bind d ds = some ds2 → body n ds2 ≠ some (.bk, n', ds')) → forL tg body (as ++ bs) n ds = forL tg body bs n1 ds1
  | [], bs, n, ds, n1, ds1, h, _ => by cases h; rfl
  | a :: as, bs, n, ds, n1, ds1, h, hb => by
    rw [List.cons_append, sv_forCons]
    rw [sv_forCons] at h
    cases e : tg.bind a ds with
    | none => rw [e] at h; cases h
    | some ds2 =>
      rw [e] at h
      dsimp only at h ⊢
      cases e2 : body n ds2 with
      | none => rw [e2] at h; cases h
      | some pp =>
        obtain ⟨fl, n', ds'⟩ := pp
        rw [e2] at h
        cases fl with
        | nx => exact forL_append h fun d hd => hb d (List.mem_cons_of_mem _ hd)
        | ct => exact forL_append h fun d hd => hb d (List.mem_cons_of_mem _ hd)
        | bk => exact absurd e2 (hb a List.mem_cons_self n ds ds2 n' ds' e)
        | rt d => cases h
        | ex c fs => cases h
end GW
namespace GW
open PySem L2 PyProof.Rows
theorem forL_nx {tg : Tg} {body : MS} {a : D} {as : List D} {n n' : Int} {ds ds1 ds' : DS} (h : tg.bind a ds = some ds1) (h2 : body n ds1 = some (.nx, n', ds')) : forL tg body (a :: as) n ds = forL tg body as n' ds' := by
  rw [sv_forCons, h]; dsimp only; rw [h2]
theorem forL_ex {tg : Tg} {body : MS} {a : D} {as : List D} {n n' : Int} {ds ds1 ds' : DS} {c : Nat} {fs : List (Str × Int)} (h : tg.bind a ds = some ds1) (h2 : body n ds1 = some (.ex c fs, n', ds')) : forL tg body (a :: as) n ds = some (.ex c fs, n', ds') := by
  rw [sv_forCons, h]; dsimp only; rw [h2]
theorem forL_rt {tg : Tg} {body : MS} {a : D} {as : List D} {n n' : Int} {ds ds1 ds' : DS} {d : D} (h : tg.bind a ds = some ds1) (h2 : body n ds1 = some (.rt d, n', ds')) : forL tg body (a :: as) n ds = some (.rt d, n', ds') := by
  rw [sv_forCons, h]; dsimp only; rw [h2]
end GW
namespace GW
theorem seq_two {a b c : MS} {n n1 : Int} {ds ds1 : DS} {r : Option (Fl × Int × DS)} (h : sSeq a b n ds = some (.nx, n1, ds1)) (h2 : c n1 ds1 = r) : sSeq a (sSeq b c) n ds = r := by
  unfold sSeq at h ⊢
  cases e : a n ds with
  | none => rw [e] at h; cases h
  | some pp =>
    obtain ⟨fl, k, ds2⟩ := pp
    rw [e] at h
    cases fl with
    | nx => dsimp only at h ⊢; rw [h]; exact h2
    | _ => cases h
end GW

namespace GW
open PySem L2 PyProof.Rows
/-! ### parts of texts -/
theorem ov_slTo {l : List Nat} {k : Nat} (hl : l.length ≤ 16777216) (hk : k ≤ l.length) : oSl none (some (k : Int)) (.str (tx l)) = some (.str (tx (l.take k))) := by
  have hz : (tx l).length = l.length := by simp [tx, Str.length]
  show (if (tx l).length ≤ sizeLine then some (D.str (cutS (tx l) none (some (k : Int)))) else none) = _
  rw [if_pos (by rw [hz]; exact hl)]
  unfold cutS
  rw [HT.sIx_none, HT.sIx_nat, hz, Nat.min_eq_left hk]
  rfl
theorem ov_slFrom {l : List Nat} {k : Nat} (hl : l.length ≤ 16777216) (hk : k ≤ l.length) : oSl (some (k : Int)) none (.str (tx l)) = some (.str (tx (l.drop k))) := by
  have hz : (tx l).length = l.length := by simp [tx, Str.length]
  show (if (tx l).length ≤ sizeLine then some (D.str (cutS (tx l) (some (k : Int)) none)) else none) = _
  rw [if_pos (by rw [hz]; exact hl)]
  unfold cutS
  rw [HT.sIx_none, HT.sIx_nat, hz, Nat.min_eq_left hk]
  have e : (tx l).cps.toList = l := rfl
  rw [e, List.take_of_length_le (by rw [List.length_drop]; omega)]
@[simp] theorem ov_cat {a b : List D} : oCat (.lst a) (.lst b) = if a.length + b.length ≤ 16777216 then some (.lst (a ++ b)) else none := (rfl)
end GW

namespace GW
open PySem L2 PyProof.Rows
/-! ### methods of texts -/
def strsD : List D → Option (List Str)
  | [] => some []
  | .str x :: r => (strsD r).map (x :: ·)
  | _ => none
theorem strs_of {K : PySem.W.Frag} {G H : Hp} : ∀ {vs : List V} {ds : List D} {ys : List Str}, RpL K G H vs ds → strsD ds = some ys → vs = ys.map V.str
  | [], [], ys, r, e => by cases e; rfl
  | [], _ :: _, _, r, _ => by cases r.1
  | _ :: _, [], _, r, _ => by cases r.1
  | v :: vs, d :: ds, ys, ⟨l, c⟩, e => by
    cases d with
    | str x =>
      simp only [strsD] at e
      cases h : strsD ds with
      | none => rw [h] at e; cases e
      | some zs =>
        rw [h] at e; cases e
        have h0 := (c 0 v (.str x) rfl rfl).str_
        have := strs_of (vs := vs) (ds := ds) ⟨by simpa using l, fun i v d a b => c (i + 1) v d a b⟩ h
        subst h0 this
        rfl
    | _ => cases e
def joinD (a : Str) (ds : List D) : Option D := match strsD ds with
  | some ys => if (ys.map (·.length)).sum + ys.length * a.length ≤ 16777216 then some (.str (Txt.join a ys)) else none
  | none => none
def oJoin (a : Str) : D → Option D
  | .lst ds => joinD a ds
  | .tup ds => joinD a ds
  | _ => none
def mM1 (mo me : M) (o : Str → D → Option D) : M := mb mo fun x => match x with
  | .str z => mb me fun y => ret (o z y)
  | _ => ret none
section
variable {X : Cx} {C : Ctx} {wx : WX} {g : Rg} {kr k : Nat} {oe a b e : Expr} {es : List Expr} {pos apos : Pos} {m ma mc mo me : M} {ms : Mo (List D)}
theorem ve_m1 {id : String} {name : Str} {r : V → List V → Hp → VK → Prop} {o : Str → D → Option D} (slot : Slot "str" name id) (ty : typeOf (.builtin id) = pure (.type "method_descriptor")) (rule : MtR X id r)
    (hr : ∀ (G H : Hp) (z : Str) (y : V) (b d : D) (A : AS), Same G H → Rp C.K G H 0 y b A → o z b = some d → ∃ v, scV d = some v ∧ ∀ Q : VK, Q v H → r (.str z) [y] H Q)
    (ho : PE X oe (W C wx .bo 0 mo)) (he : PE X e (W C wx .bo 0 me))
    (hs : starEach [e] X.env = [(false, eval e X.env)] := by rfl) (hbase : attributeBase oe name X.env (eval oe X.env) = eval oe X.env := by rfl) (hline : (apos.endLine == pos.line) = true := by rfl) :
    PE X (.Call (.Attribute oe name apos) [e] [] pos) (W C wx g k (mM1 mo me o)) :=
  (pe_m1 slot ty rule ho he hs hbase hline).wk fun σ H Q w => by
  refine w.imp (t := fun σ H Q => tM1 r _ _ σ H Q) fun F B n ds S h => ?_
  refine ⟨F, B, n, ds, S, (h.bind fun F1 H1 F2 H2 v d G r => r.tr G).mono fun x H1 ⟨F1, n1, da, G1, S1, ⟨A1, r1, f1⟩, h1⟩ => ?_⟩
  cases da with
  | str z =>
    have hx := r1.str_
    subst hx
    refine ⟨⟨z, rfl⟩, F1, B, n1, ds, S1, (h1.bind fun F1 H1 F2 H2 v d G r => r.tr G).mono fun y H2 ⟨F2, n2, db, G2, S2, ⟨A2, r2, f2⟩, h2⟩ => ?_⟩
    obtain ⟨d, e, q⟩ := h2.sc S2
    obtain ⟨v, hv, hr⟩ := hr _ _ z y db d _ (rg_same S2.fh) r2 e
    exact hr Q (q v hv)
  | _ =>
    obtain ⟨d, e, q⟩ := h1.retE
    cases e
theorem ve_join (ho : PE X oe (W C wx .bo 0 mo)) (he : PE X e (W C wx .bo 0 me)) (hK : X.K = C.K := by rfl)
    (hs : starEach [e] X.env = [(false, eval e X.env)] := by rfl) (hbase : attributeBase oe "join" X.env (eval oe X.env) = eval oe X.env := by rfl) (hline : (apos.endLine == pos.line) = true := by rfl) :
    PE X (.Call (.Attribute oe "join" apos) [e] [] pos) (W C wx g k (mM1 mo me oJoin)) :=
  ve_m1 F.slot_str_join F.type_str_join mt_join (fun G H z y b d A hs r e => by
    rw [hK]
    cases r with
    | @lst _ p vs ds h l c =>
      unfold oJoin joinD at e
      dsimp only at e
      cases hy : strsD ds with
      | none => rw [hy] at e; cases e
      | some ys =>
        rw [hy] at e; dsimp only at e
        split at e
        · rename_i hl
          cases e
          have := strs_of (RpL.of l c) hy
          subst this
          exact ⟨_, rfl, fun Q q => ⟨z, p, ys, rfl, rfl, .inl (sqL_mono h hs), hl, q⟩⟩
        · cases e
    | @tup _ _ p vs ds h l c =>
      unfold oJoin joinD at e
      dsimp only at e
      cases hy : strsD ds with
      | none => rw [hy] at e; cases e
      | some ys =>
        rw [hy] at e; dsimp only at e
        split at e
        · rename_i hl
          cases e
          have := strs_of (RpL.of l c) hy
          subst this
          exact ⟨_, rfl, fun Q q => ⟨z, p, ys, rfl, rfl, .inr h, hl, q⟩⟩
        · cases e
    | _ => cases e) ho he hs hbase hline
/-! ### a list times an int -/
def rRepS (K : PySem.W.Frag) : R2 := fun x y H Q => ∃ l k xs, x = .ref l ∧ y = .int k ∧ SqL K H l xs ∧ -(2 ^ 63) ≤ k ∧ k < 2 ^ 63 ∧ xs.length * k.toNat ≤ 2 ^ 24 ∧ ∀ p, H p = none → Q (.ref p) (upd H p (.lst (List.replicate k.toNat xs).flatten))
theorem op_repS : OpR X (binaryOp .Mult) (rRepS X.K) := by
  intro pins s σ H x y v u Q I rx ry h
  obtain ⟨l, k, xs, rfl, rfl, hH, h1, h2, hz, q⟩ := h
  cases rx
  obtain ⟨t, rfl⟩ := ry
  obtain ⟨its, r, p1, _⟩ := I.list hH
  have l1 := r.length
  obtain ⟨⟨cls, dd, data, sl⟩, n, ho, hc, _, hd⟩ := id p1
  simp only at hc hd
  subst hc hd
  have hsz : its.toArray.size * k.toNat ≤ 2 ^ 24 := by rw [List.size_toArray, ← l1]; exact hz
  refine wpAny_binaryOp_repeat_ref (T := "list") (U := "int") (by decide) ⟨_, ho, rfl⟩ (fun s' => typeIs_int s' k t) noFill_list_mul F.fills_int_mul F.slot_int_rmul repeat_list F.slot_int_index.lookup
    (call_meets F.slot_int_rmul (typeIs_int s k t) F.entry_int_rmul (F.args_int_rmul_2 _ _) (lm_int_rmul_list_any k t l its.toArray n dd sl)
      ⟨ho, rfl, ⟨_, ho, rfl⟩, call_meets F.slot_list_mul ⟨_, ho, rfl⟩ F.entry_list_mul (F.args_list_mul_2 _ _)
        (lm_list_mul_any l its.toArray n dd sl k t (by simp [Builtin.List.listFitsIndex]; omega) (by omega) (by simp [Builtin.List.listTooLong, sizeLine]; omega))
        ⟨ho, ?_⟩⟩)
  rw [listMul_foldl_if]
  exact ⟨.ref _, _, I.lnew (t' := s.toks) (r.rep k.toNat) (by rw [PyProof.Rows.lm_len_rep_flat, Nat.mul_comm]; exact hz), rfl, q _ I.fresh⟩
def oRep : D → D → Option D
  | .lst as, .int k => if -(2 ^ 63) ≤ k ∧ k < 2 ^ 63 ∧ as.length * k.toNat ≤ 2 ^ 24 then some (.lst (List.replicate k.toNat as).flatten) else none
  | _, _ => none
theorem RpL.rep {K : PySem.W.Frag} {G H : Hp} {vs : List V} {ds : List D} (r : RpL K G H vs ds) : ∀ k : Nat, RpL K G H (List.replicate k vs).flatten (List.replicate k ds).flatten
  | 0 => ⟨rfl, fun i v d a _ => by simp at a⟩
  | k + 1 => by
    rw [List.replicate_succ, List.replicate_succ, List.flatten_cons, List.flatten_cons]
    exact r.append (RpL.rep r k)
theorem ve_rep (ha : PE X a (W C wx .fz 0 ma)) (hb : PE X b (W C wx .bo 0 mc)) (hK : X.K = C.K := by rfl) : PE X (.BinOp a .Mult b pos) (W C wx .fz 1 (m2 ma mc oRep)) :=
  (pe_op (r := rRepS C.K) (by rw [← hK]; exact op_repS) ha hb).wk fun σ H Q w => by
  obtain ⟨F, B, n, ds, S, h⟩ := w
  refine ⟨F, B, n, ds, S, (h.bind fun F1 H1 F2 H2 v d G r => r.tr G).mono fun x H1 ⟨F1, n1, da, G1, S1, ⟨A1, r1, f1⟩, h1⟩ => ?_⟩
  refine ⟨F1, B, n1, ds, S1, (h1.bind fun F1 H1 F2 H2 v d G r => r.tr G).mono fun y H2 ⟨F2, n2, db, G2, S2, ⟨A2, r2, f2⟩, h2⟩ => ?_⟩
  obtain ⟨d, e, q⟩ := h2.retE
  have r1' : Rp C.K F2 H2 0 x da (fun _ => False) := Rp.go0 (g := .fz) r1 G2
  unfold oRep at e
  split at e
  · rename_i as k _
    split at e
    · rename_i hl
      cases e
      have hy := r2.int_
      subst hy
      cases r1' with
      | @lst _ p1 vs1 _ hh1 l1 c1 =>
        refine ⟨p1, k, vs1, rfl, rfl, sqL_mono hh1 S2.fh, hl.1, hl.2.1, by rw [l1]; exact hl.2.2, fun p hp => ?_⟩
        obtain ⟨G3, S3⟩ := S2.newO (o := .lst (List.replicate k.toNat vs1).flatten) hp
        have R := RpL.rep (K := C.K) (G := F2) (H := H2) (vs := vs1) (ds := as) ⟨l1, fun i v d a b => (c1 i v d a b).z⟩ k.toNat
        exact q (.ref p) F2 _ G3 S3 ⟨fun a => a = p, .lstO (fun _ _ => False) upd_same rfl R.1 (fun i v d a b => Rp.go0 (g := .fz) (R.2 i v d a b) G3) (fun _ _ h => h.elim) (fun _ _ _ h => h.elim), Fr.one S2.fh hp rfl⟩
    · cases e
  · cases e
end
/-! ### reckoned -/
theorem strsD_map (l : List Str) : strsD (l.map D.str) = some l := by
  induction l with
  | nil => rfl
  | cons x l ih => simp [strsD, ih]
theorem tx_ext {a b : Str} (h : a.cps.toList = b.cps.toList) : a = b := by
  cases a; cases b; simp only at h; rw [Array.toList_inj] at h; rw [h]
theorem joinL_nil : ∀ ls : List (List Nat), TL.joinL [] ls = ls.flatten
  | [] => rfl
  | [p] => by simp [TL.joinL]
  | p :: q :: r => by
    show p ++ ([] ++ TL.joinL [] (q :: r)) = _
    rw [List.nil_append, joinL_nil (q :: r)]; simp
theorem join_tx {ls : List (List Nat)} : Txt.join (tx []) (ls.map tx) = tx ls.flatten := by
  rw [TL.join_eq]
  apply tx_ext
  have h := TL.tl_join (tx []) (ls.map tx)
  have e : (ls.map tx).map TL.tl = ls := by simp [TL.tl, Function.comp_def]
  rw [e] at h
  exact h.trans (joinL_nil ls)
/-- ''.join of a list of texts -/
theorem ov_join0 {ls : List (List Nat)} (h : ls.flatten.length ≤ 16777216) : oJoin (tx []) (.lst (ls.map fun l => D.str (tx l))) = some (.str (tx ls.flatten)) := by
  have e1 : strsD (ls.map fun l => D.str (tx l)) = some (ls.map tx) := by
    have := strsD_map (ls.map tx)
    rw [List.map_map] at this; exact this
  have hs : ((ls.map tx).map (·.length)).sum = ls.flatten.length := by
    rw [List.length_flatten, List.map_map]; congr 1
  show joinD _ _ = _
  unfold joinD
  rw [e1]
  dsimp only
  rw [if_pos (by rw [hs]; show _ + _ * 0 ≤ _; omega), join_tx]
theorem rep_one {α : Type} (x : α) (k : Nat) : (List.replicate k [x]).flatten = List.replicate k x := by
  induction k with
  | zero => rfl
  | succ k ih => rw [List.replicate_succ, List.flatten_cons, ih, List.replicate_succ]; rfl
theorem ov_rep1 {x : D} {k : Nat} (h : k ≤ 4096) : oRep (.lst [x]) (.int (k : Int)) = some (.lst (List.replicate k x)) := by
  unfold oRep
  dsimp only
  have h3 : [x].length * (k : Int).toNat ≤ 2 ^ 24 := by
    rw [Int.toNat_natCast, List.length_singleton, Nat.one_mul]
    exact Nat.le_trans h (by decide)
  rw [if_pos ⟨by omega, by omega, h3⟩, Int.toNat_natCast, rep_one]
@[simp] theorem ev_mM1 {mo me : M} {o : Str → D → Option D} {n : Int} {ds : DS} : mM1 mo me o n ds = mb mo (fun x => match x with
  | .str z => mb me fun y => ret (o z y)
  | _ => ret none) n ds := (rfl)
end GW

namespace GW
open PySem L2 PyProof.Rows
/-! ### lists of texts are the same -/
theorem toPs_txs : ∀ xs : List (List Nat), toPs (xs.map fun l => D.str (tx l)) = some (xs.map fun l => PyData.str (tx l))
  | [] => rfl
  | x :: xs => by
    rw [List.map_cons]
    unfold toPs
    rw [toPs_txs xs]
    rfl
theorem lay_txs : ∀ xs : List (List Nat), (∀ x ∈ xs, PyData.canLay0 (.str (tx x)) = true) → PyData.canLayAll0 (xs.map fun l => PyData.str (tx l)) = true
  | [], _ => rfl
  | x :: xs, h => by
    rw [List.map_cons]
    show (PyData.canLay0 _ && PyData.canLayAll0 _) = true
    rw [h x List.mem_cons_self, lay_txs xs fun y hy => h y (List.mem_cons_of_mem _ hy)]; rfl
theorem depth_txs : ∀ xs : List (List Nat), PyData.depthAll (xs.map fun l => PyData.str (tx l)) = 0
  | [] => rfl
  | x :: xs => by
    rw [List.map_cons]
    show max (PyData.depth _) (PyData.depthAll _) = 0
    rw [depth_txs xs]; rfl
theorem eqv_txs : ∀ xs ys : List (List Nat), PyData.eqvAll (xs.map fun l => PyData.str (tx l)) (ys.map fun l => PyData.str (tx l)) = decide (xs = ys)
  | [], [] => rfl
  | [], _ :: _ => rfl
  | _ :: _, [] => rfl
  | x :: xs, y :: ys => by
    rw [List.map_cons, List.map_cons]
    show ((tx x == tx y) && PyData.eqvAll _ _) = _
    rw [eqv_txs xs ys, Bool.eq_iff_iff]
    simp only [Bool.and_eq_true, beq_iff_eq, decide_eq_true_eq, tx_inj, List.cons.injEq]
theorem shaped_txs {xs : List (List Nat)} (h : ∀ x ∈ xs, PyData.canLay0 (.str (tx x)) = true) : SeqAt.shaped (.list (xs.map fun l => PyData.str (tx l))) = true ∧ SeqAt.shaped (.tuple (xs.map fun l => PyData.str (tx l))) = true := by
  have h1 := lay_txs xs h
  have h2 := depth_txs xs
  constructor
  · show (PyData.canLayAll0 _ && decide (PyData.depthAll _ + 1 ≤ 64)) = true
    rw [h1, h2]; rfl
  · show (PyData.canLayAll0 _ && decide (PyData.depthAll _ + 1 ≤ 64)) = true
    rw [h1, h2]; rfl
theorem ov_eqL {xs ys : List (List Nat)} (hx : ∀ x ∈ xs, PyData.canLay0 (.str (tx x)) = true) (hy : ∀ x ∈ ys, PyData.canLay0 (.str (tx x)) = true) : oEqQ (.lst (xs.map fun l => D.str (tx l))) (.lst (ys.map fun l => D.str (tx l))) = some (.bl (decide (xs = ys))) := by
  have e1 : toP (.lst (xs.map fun l => D.str (tx l))) = some (.list (xs.map fun l => PyData.str (tx l))) := by
    show (toPs _).map PyData.list = _
    rw [toPs_txs]; rfl
  have e2 : toP (.lst (ys.map fun l => D.str (tx l))) = some (.list (ys.map fun l => PyData.str (tx l))) := by
    show (toPs _).map PyData.list = _
    rw [toPs_txs]; rfl
  unfold oEqQ
  rw [e1, e2]
  dsimp only
  rw [(shaped_txs hx).1, (shaped_txs hy).1]
  have : PyData.eqv (.list (xs.map fun l => PyData.str (tx l))) (.list (ys.map fun l => PyData.str (tx l))) = PyData.eqvAll (xs.map fun l => PyData.str (tx l)) (ys.map fun l => PyData.str (tx l)) := rfl
  rw [this, eqv_txs]; rfl
theorem ov_eqT {xs ys : List (List Nat)} (hx : ∀ x ∈ xs, PyData.canLay0 (.str (tx x)) = true) (hy : ∀ x ∈ ys, PyData.canLay0 (.str (tx x)) = true) : oEqQ (.tup (xs.map fun l => D.str (tx l))) (.tup (ys.map fun l => D.str (tx l))) = some (.bl (decide (xs = ys))) := by
  have e1 : toP (.tup (xs.map fun l => D.str (tx l))) = some (.tuple (xs.map fun l => PyData.str (tx l))) := by
    show (toPs _).map PyData.tuple = _
    rw [toPs_txs]; rfl
  have e2 : toP (.tup (ys.map fun l => D.str (tx l))) = some (.tuple (ys.map fun l => PyData.str (tx l))) := by
    show (toPs _).map PyData.tuple = _
    rw [toPs_txs]; rfl
  unfold oEqQ
  rw [e1, e2]
  dsimp only
  rw [(shaped_txs hx).2, (shaped_txs hy).2]
  have : PyData.eqv (.tuple (xs.map fun l => PyData.str (tx l))) (.tuple (ys.map fun l => PyData.str (tx l))) = PyData.eqvAll (xs.map fun l => PyData.str (tx l)) (ys.map fun l => PyData.str (tx l)) := rfl
  rw [this, eqv_txs]; rfl
theorem lay_tx {l : List Nat} (h : ∀ c ∈ l, c < 1114112) : PyData.canLay0 (.str (tx l)) = true := by
  show (Array.all _ _) = true
  simp only [Array.all_eq_true', List.mem_toArray, decide_eq_true_eq]
  exact h
theorem ov_neQ2 {a b c d : Int} : oNeQ (.tup [.int a, .int b]) (.tup [.int c, .int d]) = some (.bl (!(decide (a = c) && decide (b = d)))) := by
  have e : oNeQ (.tup [.int a, .int b]) (.tup [.int c, .int d]) = some (.bl (!((a == c) && ((b == d) && true)))) := (rfl)
  rw [e]
  rw [Bool.and_true]
  have h : ∀ x y : Int, (x == y) = decide (x = y) := fun x y => by rw [Bool.eq_iff_iff]; simp
  rw [h, h]
end GW

/-! sorted of triples of ints -/
namespace GW
open PySem PyProof.Rows SrtO
abbrev I3 := Int × Int × Int
def lexT (p q : I3) : Bool := if p.1 = q.1 then (if p.2.1 = q.2.1 then decide (p.2.2 < q.2.2) else decide (p.2.1 < q.2.1)) else decide (p.1 < q.1)
theorem lexT_iff {p q : I3} : lexT p q = true ↔ p.1 < q.1 ∨ (p.1 = q.1 ∧ (p.2.1 < q.2.1 ∨ (p.2.1 = q.2.1 ∧ p.2.2 < q.2.2))) := by
  unfold lexT
  by_cases e : p.1 = q.1
  · rw [if_pos e]
    by_cases e2 : p.2.1 = q.2.1
    · rw [if_pos e2, decide_eq_true_eq]; omega
    · rw [if_neg e2, decide_eq_true_eq]; omega
  · rw [if_neg e, decide_eq_true_eq]; omega
theorem lexT_no {p q : I3} : lexT p q = false ↔ ¬ (p.1 < q.1 ∨ (p.1 = q.1 ∧ (p.2.1 < q.2.1 ∨ (p.2.1 = q.2.1 ∧ p.2.2 < q.2.2)))) := by
  rw [← lexT_iff]
  cases lexT p q <;> simp
theorem swo_lexT {α : Type} (k : α → I3) : Swo fun v u => lexT (k v) (k u) := by
  refine ⟨fun x y h => ?_, fun x y z h1 h2 => ?_⟩
  · have a := lexT_iff.mp h
    refine lexT_no.mpr ?_
    omega
  · have a := lexT_no.mp h1
    have b := lexT_no.mp h2
    refine lexT_no.mpr ?_
    omega
theorem lexT_eq {p q : I3} (h1 : lexT p q = false) (h2 : lexT q p = false) : p = q := by
  have a := lexT_no.mp h1
  have b := lexT_no.mp h2
  obtain ⟨x, y, z⟩ := p
  obtain ⟨x', y', z'⟩ := q
  simp only at a b
  have h1 : x = x' := by omega
  have h2 : y = y' := by omega
  have h3 : z = z' := by omega
  rw [h1, h2, h3]
theorem srt_uniq : ∀ {l m : List I3}, Srtd lexT l → Srtd lexT m → l.Perm m → l = m
  | [], m, _, _, h => (List.Perm.eq_nil h.symm).symm
  | x :: l, [], _, _, h => absurd h.length_eq (by simp)
  | x :: l, y :: m, hl, hm, h => by
    have e : x = y := by
      rcases List.mem_cons.mp (h.mem_iff.mp (List.mem_cons_self (a := x) (l := l))) with e | hx
      · exact e
      · rcases List.mem_cons.mp (h.mem_iff.mpr (List.mem_cons_self (a := y) (l := m))) with e | hy
        · exact e.symm
        · exact lexT_eq ((List.pairwise_cons.mp hm).1 x hx) ((List.pairwise_cons.mp hl).1 y hy)
    subst e
    rw [srt_uniq (List.pairwise_cons.mp hl).2 (List.pairwise_cons.mp hm).2 h.cons_inv]
def insT (p : I3) : List I3 → List I3
  | [] => [p]
  | q :: r => if lexT q p = true then q :: insT p r else p :: q :: r
def sortT : List I3 → List I3
  | [] => []
  | p :: r => insT p (sortT r)
theorem insT_perm (p : I3) : ∀ l, (insT p l).Perm (p :: l)
  | [] => List.Perm.refl _
  | q :: r => by
    unfold insT
    split
    · exact ((insT_perm p r).cons q).trans (List.Perm.swap p q r)
    · exact List.Perm.refl _
theorem sortT_perm : ∀ l, (sortT l).Perm l
  | [] => List.Perm.refl _
  | p :: r => (insT_perm p (sortT r)).trans ((sortT_perm r).cons p)
theorem insT_srt (p : I3) : ∀ {l}, Srtd lexT l → Srtd lexT (insT p l)
  | [], _ => List.pairwise_singleton _ _
  | q :: r, h => by
    obtain ⟨h1, h2⟩ := List.pairwise_cons.mp h
    have O := swo_lexT (fun p : I3 => p)
    unfold insT
    split
    · rename_i hq
      refine List.pairwise_cons.mpr ⟨fun z hz => ?_, insT_srt p h2⟩
      rcases List.mem_cons.mp ((insT_perm p r).mem_iff.mp hz) with rfl | hz
      · exact O.asym _ _ hq
      · exact h1 z hz
    · rename_i hq
      have hq : lexT q p = false := by simpa using hq
      refine List.pairwise_cons.mpr ⟨fun z hz => ?_, h⟩
      rcases List.mem_cons.mp hz with rfl | hz
      · exact hq
      · exact O.tr _ _ _ hq (h1 z hz)
theorem sortT_srt : ∀ l, Srtd lexT (sortT l)
  | [] => List.Pairwise.nil
  | p :: r => insT_srt p (sortT_srt r)
theorem sortT_is {l m : List I3} (h : Srtd lexT m) (hp : l.Perm m) : sortT l = m := srt_uniq (sortT_srt l) h ((sortT_perm l).trans hp)
/-! ### in the heap -/
def IsTri (h : Heap) (v : Value) (p : I3) : Prop := ∃ a o t u w n, v = .ref a ∧ h.get? a = some o ∧ o.cls = .type "tuple" ∧ o.data = .seq #[.int p.1 t, .int p.2.1 u, .int p.2.2 w] n
theorem IsTri.keeps {h h' : Heap} {v : Value} {p : I3} (q : IsTri h v p) (k : ∀ b o, h.get? b = some o → o.cls = .type "tuple" → h'.get? b = some o) : IsTri h' v p := by
  obtain ⟨a, o, t, u, w, n, e, ho, hc, hd⟩ := q
  exact ⟨a, o, t, u, w, n, e, k _ _ ho hc, hc, hd⟩
section
variable {prog : Program} {w : World} {A : Around} {E : Value → Shared → Prop} {s : Shared}
theorem tri_cmp {vs : List Value} {k : Value → I3} (hp : ∀ v ∈ vs, IsTri s.heap v (k v)) : Cmp prog w A s (tuples' true) (fun p => p.1 ∈ vs) (lt2 fun v u => lexT (k v) (k u)) := by
  intro p q hm hm'
  have h1 := hp _ hm
  have h2 := hp _ hm'
  show wpAny (model prog w) A (keyLt' (tuples' true) p.1 q.1) (fun r s' => s' = s ∧ r = lexT (k p.1) (k q.1)) (fun _ _ => False) s
  unfold lexT
  generalize (k p.1) = kp at h1 ⊢
  generalize (k q.1) = kq at h2 ⊢
  obtain ⟨x, y, z⟩ := kp
  obtain ⟨x', y', z'⟩ := kq
  simp only at h1 h2 ⊢
  obtain ⟨a, o, t, u, v, n, e, ho, hc, hd⟩ := h1
  obtain ⟨a', o', t', u', v', n', e', ho', hc', hd'⟩ := h2
  simp only at hd hd'
  rw [e, e']
  refine PySem.W.kat_lt ho hd ho' hd' ?_
  show PySem.W.KatLex prog w A true (decide (3 < 3)) _ [(.int x t, .int x' t'), (.int y u, .int y' u'), (.int z v, .int z' v')] 0 s
  refine PySem.W.kat_cons (SeqAt.EqAt.int_int x t x' t' prog w _ _ ?_)
  refine PySem.W.kat_go (fun e1 => ?_) (fun e1 => ?_)
  · have ex : x = x' := by simpa using e1
    refine PySem.W.kat_yes (PySem.W.kat_cons (SeqAt.EqAt.int_int y u y' u' prog w _ _ ?_))
    refine PySem.W.kat_go (fun e2 => ?_) (fun e2 => ?_)
    · have ey : y = y' := by simpa using e2
      refine PySem.W.kat_yes (PySem.W.kat_cons (SeqAt.EqAt.int_int z v z' v' prog w _ _ ?_))
      refine PySem.W.kat_go (fun e4 => ?_) (fun e4 => ?_)
      · have ez : z = z' := by simpa using e4
        have e3 : (if x = x' then (if y = y' then decide (z < z') else decide (y < y')) else decide (x < x')) = false := by
          rw [if_pos ex, if_pos ey, ez]
          exact decide_eq_false (Int.lt_irrefl _)
        exact PySem.W.kat_yes (PySem.W.kat_nil ⟨rfl, e3.symm⟩)
      · have e3 : (if x = x' then (if y = y' then decide (z < z') else decide (y < y')) else decide (x < x')) = decide (z < z') := by rw [if_pos ex, if_pos ey]
        refine PySem.W.kat_no (PySem.W.kat_one _ _ (PyProof.Rows.lt_int ?_))
        exact (show s = s ∧ decide (z < z') = _ from ⟨rfl, e3.symm⟩)
    · have ey : ¬ y = y' := by simpa using e2
      have e3 : (if x = x' then (if y = y' then decide (z < z') else decide (y < y')) else decide (x < x')) = decide (y < y') := by rw [if_pos ex, if_neg ey]
      refine PySem.W.kat_no (PySem.W.kat_one _ _ (PyProof.Rows.lt_int ?_))
      exact (show s = s ∧ decide (y < y') = _ from ⟨rfl, e3.symm⟩)
  · have ex : ¬ x = x' := by simpa using e1
    have e3 : (if x = x' then (if y = y' then decide (z < z') else decide (y < y')) else decide (x < x')) = decide (x < x') := if_neg ex
    exact PySem.W.kat_no (oneLt_int ⟨rfl, e3.symm⟩)
theorem firsts_ofT {h : Heap} {k : Value → I3} : ∀ {vs : List Value}, (∀ v ∈ vs, IsTri h v (k v)) → ∃ fs : List Value, PySem.W.KatTups h vs fs ∧ fs.length = vs.length ∧ ∀ f ∈ fs, ∃ x t, f = Value.int x t
  | [], _ => ⟨[], PySem.W.KatTups.nil, rfl, fun _ hm => by simp at hm⟩
  | v :: vs, hp => by
    obtain ⟨fs, h1, h2, h3⟩ := firsts_ofT (vs := vs) fun v' hm => hp v' (List.mem_cons_of_mem _ hm)
    obtain ⟨a, o, t, u, w, n, e, ho, hc, hd⟩ := hp v (List.mem_cons_self ..)
    subst e
    refine ⟨.int (k (.ref a)).1 t :: fs, PySem.W.KatTups.cons ho hc hd rfl h1, by rw [List.length_cons, List.length_cons, h2], fun f hm => ?_⟩
    rcases List.mem_cons.mp hm with rfl | hm
    · exact ⟨_, t, rfl⟩
    · exact h3 f hm
theorem tris_sortable {a : Addr} {vs : List Value} {k : Value → I3} (h0 : 0 < vs.length) (hp : ∀ v ∈ vs, IsTri s.heap v (k v)) (ha : ∀ o, s.heap.get? a = some o → o.cls ≠ .type "tuple") : SortableO prog w A s a vs fun v u => lexT (k v) (k u) := by
  intro h' keep
  have hp' : ∀ v ∈ vs, IsTri h' v (k v) := fun v hm => (hp v hm).keeps fun b o e c => keep b o (fun z => by subst z; exact ha o e c) e
  obtain ⟨fs, h1, h2, h3⟩ := firsts_ofT hp'
  refine ⟨tuples' true, fun Q E hq => ?_, tri_cmp hp'⟩
  refine PySem.W.kat_kind (T := .type "int") h1 (by omega) (fun f hm => ?_) (by rfl) ?_
  · obtain ⟨x, t, rfl⟩ := h3 f hm
    exact PySem.W.Looks.now
  · have e : (Value.type "int" != Value.type "tuple") = true := by first | decide +kernel | rfl | decide
    rw [e]
    exact hq
theorem sorted_tris {l : Addr} {vs : List Value} {k : Value → I3} {Q : Value → Shared → Prop} (hl : s.heap.IsList l vs.toArray) (hz : vs.length ≤ sizeLine) (hp : ∀ v ∈ vs, IsTri s.heap v (k v))
    (h : ∀ (h' : Heap) (d : Addr) (out : List Value), Srtd (fun v u => lexT (k v) (k u)) out → Stb (fun v u => lexT (k v) (k u)) out vs → (∀ b o, s.heap.get? b = some o → h'.get? b = some o) → s.heap.objs.size ≤ d → (∃ n, h'.get? d = some (seqObj "list" out.toArray n)) → Q (.ref d) { s with heap := h' }) :
    wpAny (model prog w) A (call (.builtin "sorted") [.ref l]) Q E s := by
  refine sorted_ord (swo_lexT k) hl hz (fun h2 h₁ a ha kk => ?_) fun out hs hb => ?_
  · refine tris_sortable (s := { s with heap := h₁ }) (by omega) (fun v hm => (hp v hm).keeps fun b o e _ => (kk b o e).2) fun o e => ?_
    have e' : some o = some (seqObj "list" vs.toArray 0) := e.symm.trans ha
    cases e'
    intro c
    exact absurd (Value.type.inj c) (by decide)
  · exact h _ _ out hs hb (fun b o e => sortedAll_old e) (Nat.le_succ _) (sortedAll_at s.heap vs out.toArray)
end
end GW

namespace GW
open PySem L2 PyProof.Rows SrtO
def tv (p : I3) : List V := [.int p.1, .int p.2.1, .int p.2.2]
def TriAt (K : PySem.W.Frag) (H : Hp) (xs : List V) (ts : List I3) : Prop := xs.length = ts.length ∧ ∀ (i : Nat) x p, xs[i]? = some x → ts[i]? = some p → ∃ t, x = .ref t ∧ SqT K H t (tv p)
def rSortedT (K : PySem.W.Frag) : List V → Hp → VK → Prop := fun vs H Q => ∃ (a : Addr) (xs : List V) (ts : List I3), vs = [V.ref a] ∧ SqL K H a xs ∧ TriAt K H xs ts ∧
  ∀ ys us p, TriAt K H ys us → Srtd lexT us → us.Perm ts → ys.length ≤ sizeLine → H p = none → Q (.ref p) (upd H p (.lst ys))
noncomputable def triOf (h : Heap) (v : Value) : I3 := by
  classical
  exact if e : ∃ p, IsTri h v p then Classical.choose e else (0, 0, 0)
theorem tri_inj {h : Heap} {v : Value} {p q : I3} (h1 : IsTri h v p) (h2 : IsTri h v q) : p = q := by
  obtain ⟨a, o, t, u, w, n, e, ho, hc, hd⟩ := h1
  obtain ⟨a', o', t', u', w', n', e', ho', hc', hd'⟩ := h2
  rw [e] at e'; cases e'
  rw [ho] at ho'; cases ho'
  rw [hd] at hd'
  injection hd' with hd' _
  have := congrArg Array.toList hd'
  simp only [List.cons.injEq, Value.int.injEq, and_true] at this
  obtain ⟨x, y, z⟩ := p
  obtain ⟨x', y', z'⟩ := q
  simp only at this
  obtain ⟨⟨h1, _⟩, ⟨h2, _⟩, ⟨h3, _⟩⟩ := this
  rw [h1, h2, h3]
theorem triOf_is {h : Heap} {v : Value} {p : I3} (e : IsTri h v p) : triOf h v = p := by
  unfold triOf
  have e' : ∃ p, IsTri h v p := ⟨p, e⟩
  rw [dif_pos e']
  exact tri_inj (Classical.choose_spec e') e
section
variable {X : Cx}
theorem cr_sortedT : CallR X (.builtin "sorted") (rSortedT X.K) := by
  intro pins s σ H vs us Q I r h
  obtain ⟨a, xs, ts, rfl, hs, ⟨hxl, hx⟩, q⟩ := h
  obtain ⟨its, rv, hl, hz⟩ := I.list hs
  obtain ⟨u, rfl, ru⟩ := vals1 r
  obtain rfl : u = Value.ref a := ru
  have hts : ∀ (i : Nat) x, xs[i]? = some x → ∃ p, ts[i]? = some p := fun i x e => by
    have := (List.getElem?_eq_some_iff.mp e).1
    exact ⟨ts[i], List.getElem?_eq_getElem (by omega)⟩
  obtain ⟨e1, e2⟩ := refs_back rv fun x m => by
    obtain ⟨i, hi⟩ := List.getElem?_of_mem m
    obtain ⟨p, hp⟩ := hts i x hi
    obtain ⟨t, e, _⟩ := hx i x p hi hp
    exact ⟨t, e⟩
  -- each value's triple
  have tri : ∀ (i : Nat) v, its[i]? = some v → ∃ t p, v = Value.ref t ∧ ts[i]? = some p ∧ SqT X.K H t (tv p) ∧ IsTri s.heap v p := fun i v hv => by
    have hxi : xs[i]? = some (backV v) := by rw [e1, List.getElem?_map, hv]; rfl
    obtain ⟨p, hp⟩ := hts i _ hxi
    obtain ⟨t, e, ht⟩ := hx i _ p hxi hp
    obtain ⟨b, rfl⟩ := e2 v (List.mem_of_getElem? hv)
    cases e
    obtain ⟨its2, r2, ⟨o, ho, hc, n, hd⟩, _⟩ := I.tuple ht
    refine ⟨t, p, rfl, hp, ht, ?_⟩
    match its2, r2 with
    | [u1, u2, u3], .cons r1 (.cons r2 (.cons r3 .nil)) =>
      obtain ⟨t1, rfl⟩ := r1
      obtain ⟨t2, rfl⟩ := r2
      obtain ⟨t3, rfl⟩ := r3
      exact ⟨t, o, t1, t2, t3, n, rfl, ho, hc, hd⟩
  have hmap : its.map (triOf s.heap) = ts := by
    apply List.ext_getElem?
    intro i
    rw [List.getElem?_map]
    cases hv : its[i]? with
    | none =>
      have := List.getElem?_eq_none_iff.mp hv
      have hl2 := rv.length
      rw [List.getElem?_eq_none (by omega)]; rfl
    | some v =>
      obtain ⟨t, p, _, hp, _, hi⟩ := tri i v hv
      rw [hp, Option.map_some, triOf_is hi]
  refine sorted_tris (k := triOf s.heap) hl.isList (by rw [← rv.length]; exact hz) (fun v hv => ?_) fun h' d out h1 h2 kp hd hn => ?_
  · obtain ⟨i, hi⟩ := List.getElem?_of_mem hv
    obtain ⟨t, p, _, _, _, z⟩ := tri i v hi
    rw [triOf_is z]; exact z
  · have h3 : ∀ u ∈ out, ∃ a, u = Value.ref a := fun u hu => e2 u (h2.perm.mem_iff.mp hu)
    obtain ⟨n, hn⟩ := hn
    have hlen : out.length = its.length := h2.perm.length_eq
    have hz' : (out.map backV).length ≤ sizeLine := by
      rw [List.length_map, hlen, ← rv.length]; exact hz
    refine ⟨.ref d, upd H d (.lst (out.map backV)), I.laid (t' := s.toks) kp hd ⟨hz', out, n, vals_back h3, hn⟩, rfl, q _ (out.map (triOf s.heap)) d ⟨by simp, fun i y p hy hp => ?_⟩ (srtd_map h1) (by rw [← hmap]; exact h2.perm.map _) hz' (I.hok.fresh hd)⟩
    rw [List.getElem?_map] at hy hp
    cases hv : out[i]? with
    | none => rw [hv] at hy; cases hy
    | some v =>
      rw [hv] at hy hp
      cases hy
      cases hp
      have hm := h2.perm.mem_iff.mp (List.mem_of_getElem? hv)
      obtain ⟨j, hj⟩ := List.getElem?_of_mem hm
      obtain ⟨t, p, e, _, ht, z⟩ := tri j v hj
      subst e
      exact ⟨t, rfl, by rw [triOf_is z]; exact ht⟩
end
/-! ### as plain data -/
def triD (p : I3) : D := .tup [.int p.1, .int p.2.1, .int p.2.2]
def trisD : List D → Option (List I3)
  | [] => some []
  | .tup [.int x, .int y, .int z] :: r => (trisD r).map ((x, y, z) :: ·)
  | _ :: _ => none
theorem trisD_map : ∀ l : List I3, trisD (l.map triD) = some l
  | [] => rfl
  | p :: l => by
    show (trisD (l.map triD)).map ((p.1, p.2.1, p.2.2) :: ·) = _
    rw [trisD_map l]; rfl
theorem trisD_eq : ∀ {ds : List D} {ts : List I3}, trisD ds = some ts → ds = ts.map triD
  | [], ts, e => by cases e; rfl
  | d :: ds, ts, e => by
    unfold trisD at e
    split at e
    · rename_i h; cases h
    · rename_i x y z r h
      cases h
      cases h2 : trisD ds with
      | none => rw [h2] at e; cases e
      | some us =>
        rw [h2] at e
        cases e
        rw [trisD_eq h2]; rfl
    · cases e
def oSorted : List D → Option D
  | [.lst ds] => (trisD ds).map fun ts => .lst ((sortT ts).map triD)
  | _ => none
theorem ov_sorted (l : List I3) : oSorted [.lst (l.map triD)] = some (.lst ((sortT l).map triD)) := by
  show (trisD (l.map triD)).map _ = _
  rw [trisD_map]; rfl
section
variable {X : Cx} {C : Ctx} {wx : WX} {e : Expr} {p pos : Pos} {ms : Mo (List D)} {g : Rg}
theorem ve_sorted (hm : X.mg "sorted" = none) (ha : PA X [e] (WA C wx g ms)) (hg : Gl X "sorted" := by rfl)
    (hs : starEach [e] X.env = (false, eval e X.env) :: starEach [] X.env := by rfl) (hpl : (backTo pos (starEach [] X.env)).any (·.1) = false := by rfl) (hK : X.K = C.K := by rfl) : PE X (.Call (.Name "sorted" p) [e] [] pos) (W C wx .fz 1 (mCB ms oSorted)) := by
  refine (pe_callB cr_sortedT hg hm PyProof.Rows.boot_sorted ha (by decide) (by decide) hs hpl).wk fun σ H Q w => ?_
  obtain ⟨F, B, n, ds, S, h⟩ := w
  refine ⟨F, B, n, ds, S, (h.bind fun F1 H1 F2 H2 v d G r => r.tr G).mono fun xs H1 ⟨F1, n1, da, G1, S1, r1, h1⟩ => ?_⟩
  obtain ⟨d, e, q⟩ := h1.retE
  unfold oSorted at e
  split at e
  · rename_i l
    cases ht : trisD l with
    | none => rw [ht] at e; cases e
    | some ts =>
      rw [ht] at e
      cases e
      have hl := trisD_eq ht
      subst hl
      obtain ⟨v, rfl, r⟩ := r1.one
      cases r with
      | @lst _ a vs _ hh l c =>
        rw [hK]
        rw [List.length_map] at l
        refine ⟨a, vs, ts, rfl, sqL_mono hh (rg_same S1.fh), ⟨l, fun i x p hx hp => ?_⟩, fun ys us p hy h1 h2 hz hp => ?_⟩
        · have r2 := c i x (triD p) hx (by rw [List.getElem?_map, hp]; rfl)
          unfold triD at r2
          cases r2 with
          | @tup _ _ t ws _ h3 l3 c3 =>
            refine ⟨t, rfl, ?_⟩
            match ws, l3 with
            | [w1, w2, w3], _ =>
              have e1 := (c3 0 w1 _ rfl rfl).int_
              have e2 := (c3 1 w2 _ rfl rfl).int_
              have e3 := (c3 2 w3 _ rfl rfl).int_
              subst e1 e2 e3
              exact h3
        · obtain ⟨G2, S2⟩ := S1.newO (o := .lst ys) hp
          have hus : sortT ts = us := sortT_is h1 h2.symm
          refine q (.ref p) F1 _ G2 S2 ⟨fun a => a = p, .lstO (fun _ _ => False) upd_same rfl (by rw [hy.1, hus, List.length_map]) (fun i y d hyi hd => ?_) (fun _ _ h => h.elim) (fun _ _ _ h => h.elim), Fr.one S1.fh hp rfl⟩
          rw [hus, List.getElem?_map] at hd
          cases hu : us[i]? with
          | none => rw [hu] at hd; cases hd
          | some z =>
            rw [hu] at hd
            cases hd
            obtain ⟨t, rfl, ht⟩ := hy.2 i y z hyi hu
            refine Rp.go0 (g := .fz) (F := F1) (H := H1) (A := fun _ => False) ?_ G2
            exact .tup ht rfl fun j v d hv hd => by
              match j, hv, hd with
              | 0, hv, hd => cases hv; cases hd; exact .int
              | 1, hv, hd => cases hv; cases hd; exact .int
              | 2, hv, hd => cases hv; cases hd; exact .int
  · cases e
end
end GW

/-! len(set(a text whose signs are unlike)) -/
namespace GWS
open PySem PySem.Froz PyProof.Rows
theorem runD_ok {P : Program} {w : World} : ∀ (cs : List Nat) (tk : Tok) (D : SD) (l : List Str), TxOk P w D l → TxOk P w (runD w cs tk D) ((cs.map sing).reverse ++ l)
  | [], _, _, _, F => F
  | c :: r, tk, D, l, F => by
    have h := runD_ok r (tk + 2) (addTx (hashStr w (sing c)) (.str (sing c) tk) D) (sing c :: l) (add_ok tk F)
    have e : ((c :: r).map sing).reverse ++ l = (r.map sing).reverse ++ (sing c :: l) := by simp
    rw [e]; exact h
theorem finU_get {h : Heap} {a it : Addr} {X : SD} {Y Z : Obj} (hne : a ≠ it) (n m : Nat) (ha : ∃ o, h.get? a = some o) (st : Shared) (hst : st.heap = h) : (finU st a "set" it X n m).heap.get? a = some (sObj "set" X) := by
  obtain ⟨o, ho⟩ := ha
  subst hst
  unfold finU
  refine Heap.get?_push_of_some _ (Heap.get?_push_of_some _ ?_)
  unfold two
  exact PySem.Heap.get?_update_of_ne _ (Ne.symm hne) (get_upd _ ho rfl)
theorem finU_old {a it : Addr} {X : SD} (n m : Nat) (st : Shared) {b : Addr} {o : Obj} (h1 : b ≠ a) (h2 : b ≠ it) (hb : st.heap.get? b = some o) : (finU st a "set" it X n m).heap.get? b = some o := by
  unfold finU
  refine Heap.get?_push_of_some _ (Heap.get?_push_of_some _ ?_)
  unfold two
  exact PySem.Heap.get?_update_of_ne _ (Ne.symm h2) (PySem.Heap.get?_update_of_ne _ (Ne.symm h1) hb)
section
variable {prog : Program} {w : World} {A : Around} {E : Value → Shared → Prop} {s : Shared}
theorem call_set_tx {x : Str} {t : Tok} {Q : Value → Shared → Prop}
    (hh : A.handled = none) (ha : x.cps.all (· < 128) = true) (hn : x.cps.toList.Nodup) (hb : x.cps.toList.length < scanBound)
    (h : ∀ (h' : Heap) (tk : Nat) (o : Obj) (es : Array (Int × Value)) (ep : Nat) (tb : SetTable), h'.get? s.heap.objs.size = some o → o.ExactSet → o.data = .set es ep tb → tb.fits es.size = true → es.size = x.cps.toList.length →
      (∀ b o, b < s.heap.objs.size → s.heap.get? b = some o → h'.get? b = some o) → Q (.ref s.heap.objs.size) { s with heap := h', toks := tk }) :
    wpAny (model prog w) A (call (.type "set") [.str x t]) Q E s := by
  obtain ⟨c, tl, hmro⟩ := PySem.F.called_set.mro
  have hmade := PySem.F.called_set.made
  have hsub := PySem.F.called_set.sub
  refine wpAny_call (codeAny_of_tree ?_)
  show wpAny _ _ (callAny (.type "set") _) _ _ _
  refine wpAny_pure ⟨Code.quiet_builtin _ (by decide +kernel), codeAny_builtin PySem.F.entry_type_call ?_⟩
  rw [Around.under_plain (weight_type_call_type "set" [.str x t] []) rfl]
  have h1 := PySem.F.called_set.notType
  have h2 := PySem.F.called_set.canCreate
  have hct := PySem.F.typeCall_set_1 (.str x t)
  repeat (any_goals (first | assumption | wp_step))

  refine codeAny_mono (code_set_new_1 (.str x t) (E := E) (Q₁ := fun obj s₁ => ∃ led : Bool, obj = .ref s.heap.objs.size ∧ s₁ = { s with heap := s.heap.push { cls := .type "set", dict := none, data := .set #[] 0 (.fresh 0 0 led) } }) fun led => ⟨led, rfl, rfl⟩) fun r s₁ hr => ?_
  cases r with
  | error e => exact hr
  | ok fl =>
    cases fl with
    | ret obj =>
      obtain ⟨led, rfl, rfl⟩ := hr
      have hS : (s.heap.push { cls := .type "set", dict := none, data := .set #[] 0 (.fresh 0 0 led) }).get? s.heap.objs.size = some { cls := .type "set", dict := none, data := .set #[] 0 (.fresh 0 0 led) } := Heap.get?_push_size _ rfl
      have hT : Shared.TypeIs { s with heap := s.heap.push { cls := .type "set", dict := none, data := .set #[] 0 (.fresh 0 0 led) } } (.ref s.heap.objs.size) "set" := ⟨_, hS, rfl⟩
      have hli := PySem.F.called_set.init.lookup
      have hbi := PySem.F.called_set.init.bind (.ref s.heap.objs.size)
      repeat (any_goals (first | assumption | wp_step))

      refine codeAny_mono (codeAny_call_builtin (R := wants (fun r s₂ => r = .none ∧ ∃ (h' : Heap) (tk : Nat) (o : Obj) (es : Array (Int × Value)) (ep : Nat) (tb : SetTable), s₂ = { s with heap := h', toks := tk } ∧
          h'.get? s.heap.objs.size = some o ∧ o.ExactSet ∧ o.data = .set es ep tb ∧ tb.fits es.size = true ∧ es.size = x.cps.toList.length ∧
          (∀ b o, b < s.heap.objs.size → s.heap.get? b = some o → h'.get? b = some o)) E) PySem.F.called_set.init.plain PySem.F.entry_set_init (check_set_init_1 hT ?_)) fun r₂ s₂ hr₂ => ?_
      · have hsls := PySem.F.sub_str_set
        have hslf := PySem.F.sub_str_frozenset
        have hne : (Value.type "str" == Value.type "dict") = false := by decide
        unfold Builtin.«set.__init__» noKeywords Builtin.Frozenset.updateFrom
        generalize hPI : pyIter = PI
        wp_walk
        subst hPI
        refine wpAny_pyIter_ascii ha ?_
        refine wpAny_bind (wpAny_runValue ?_)
        have hsz : (s.heap.push { cls := .type "set", dict := none, data := .set #[] 0 (.fresh 0 0 led) }).objs.size = s.heap.objs.size + 1 := Heap.size_push ..
        have hD : TxOk prog w ((#[], 0, .fresh 0 0 led) : SD) [] := TxOk.nil (by cases led <;> rfl)
        refine code_update (a := s.heap.objs.size) (it := (s.heap.push { cls := .type "set", dict := none, data := .set #[] 0 (.fresh 0 0 led) }).objs.size) (by rw [hsz]; exact Nat.ne_of_lt (Nat.lt_succ_self _)) (T := "set") (x := x) (u := t) (by simp [hh]) x.cps.toList 0 (#[], 0, .fresh 0 0 led) [] _ rfl (Heap.get?_push_of_some _ hS) (Heap.get?_push_size _ rfl) hD (fun _ _ hm => by cases hm) hn (by simpa using hb) ?_
        have FX := runD_ok (P := prog) (w := w) x.cps.toList s.toks (#[], 0, .fresh 0 0 led) [] hD
        have hszX : (runD w x.cps.toList s.toks (#[], 0, .fresh 0 0 led)).1.size = x.cps.toList.length := by
          rw [FX.sz]; simp
        show wpAny _ _ _ _ _ _
        refine wpAny_pure ?_
        show wpAny _ _ (ret Value.none) _ _ _
        refine wpAny_pure ⟨rfl, _, _, sObj "set" (runD w x.cps.toList s.toks (#[], 0, .fresh 0 0 led)), _, _, _, rfl, finU_get (Y := itEnd 0) (Z := itEnd 0) (by rw [hsz]; exact Nat.ne_of_lt (Nat.lt_succ_self _)) (0 + x.cps.toList.length) x.cps.toList.length ⟨_, Heap.get?_push_of_some _ hS⟩ _ rfl, ⟨rfl, rfl, rfl⟩, rfl, FX.fit, hszX, fun b o hb e => finU_old (0 + x.cps.toList.length) x.cps.toList.length _ (Nat.ne_of_lt hb) (by rw [hsz]; exact Nat.ne_of_lt (Nat.lt_succ_of_lt hb)) (Heap.get?_push_of_some _ (Heap.get?_push_of_some _ e))⟩
      · cases r₂ with
        | error e => exact hr₂
        | ok fl₂ =>
          cases fl₂ with
          | ret r =>
            obtain ⟨rfl, h', tk, o, es, ep, tb, rfl, z1, z2, z3, z4, z5, z6⟩ := hr₂
            repeat (any_goals (first | assumption | wp_step))
            exact h _ _ o es ep tb z1 z2 z3 z4 z5 z6
          | _ => exact hr₂.elim
    | _ => exact hr.elim
end
end GWS

namespace GW
open PySem L2 PyProof.Rows
/-- len(set(e)): a text whose signs are unlike -/
def tLenSetTx (ta : TE) : TE := fun σ H Q => ta σ H fun x H1 => ∃ z : Str, x = .str z ∧ z.cps.all (· < 128) = true ∧ z.cps.toList.Nodup ∧ z.cps.toList.length ≤ 64 ∧ Q (.int (z.cps.toList.length : Nat)) H1
theorem pe_lenSetTx {X : Cx} {a : Expr} {ta : TE} {p p2 q pos : Pos} (hg : Gl X "len") (hm : X.mg "len" = none) (hg2 : Gl X "set") (hm2 : X.mg "set" = none) (ha : PE X a ta) (hc : X.calm = true := by rfl)
    (na : starEach [a] X.env = (false, eval a X.env) :: starEach [] X.env := by rfl) : PE X (.Call (.Name "len" p) [.Call (.Name "set" p2) [a] [] q] [] pos) (tLenSetTx ta) := by
  refine ⟨fun pins s σ H Q I h => ?_⟩
  refine Call_ (ld_blt I hg hm PySem.boot_len ?_)
  refine PyProof.Rows.callWith_builtin1 (PyProof.Rows.args_cons ?_ rfl) rfl rfl
  refine Call_ (ld_blt I hg2 hm2 PyProof.Rows.boot_set ?_)
  refine PyProof.Rows.callWith_type1 (PyProof.Rows.args_cons (thn (ha.run pins s σ H _ I h) fun v s1 ⟨x, H1, I1, r1, q1⟩ => PyProof.Rows.args_nil ?_) na) na rfl
  obtain ⟨z, rfl, ha, hnd, hl, q1⟩ := q1
  obtain ⟨t, rfl⟩ := r1
  refine GWS.call_set_tx (I1.ok.hd hc) ha hnd (by unfold scanBound; omega) fun h' tk o es ep tb ho hex hd hf hn hk => ?_
  refine PyProof.Rows.args_nil ?_
  have I2 : Inv X pins σ H1 { s1 with heap := h', toks := tk } := I1.kept fun b o e => hk b o (Heap.lt_size e) e
  exact call_len_set ho hex hd hf (by rw [hn]; omega) ⟨.int (z.cps.toList.length : Nat), H1, I2.tok _, ⟨_, by rw [hn]⟩, q1⟩
def oLenSet : D → Option D
  | .str z => if z.cps.all (· < 128) = true ∧ z.cps.toList.Nodup ∧ z.cps.toList.length ≤ 64 then some (.int (z.cps.toList.length : Nat)) else none
  | _ => none
section
variable {X : Cx} {C : Ctx} {wx : WX} {g : Rg} {k : Nat} {e : Expr} {p p2 p3 pos : Pos} {m : M}
theorem ve_lenSet (hm : X.mg "len" = none) (hm2 : X.mg "set" = none) (ha : PE X e (W C wx .bo 0 m)) (hg : Gl X "len" := by rfl) (hg2 : Gl X "set" := by rfl) (hc : X.calm = true := by rfl)
    (na : starEach [e] X.env = (false, eval e X.env) :: starEach [] X.env := by rfl) : PE X (.Call (.Name "len" p) [.Call (.Name "set" p2) [e] [] p3] [] pos) (W C wx g k (m1 m oLenSet)) :=
  (pe_lenSetTx hg hm hg2 hm2 ha hc na).wk fun σ H Q w => by
  refine w.imp (t := fun σ H Q => tLenSetTx _ σ H Q) fun F B n ds S h => ?_
  refine ⟨F, B, n, ds, S, (h.bind fun F1 H1 F2 H2 v d G r => r.tr G).mono fun x H1 ⟨F1, n1, da, G1, S1, ⟨A1, r1, f1⟩, h1⟩ => ?_⟩
  obtain ⟨d, e, q⟩ := h1.sc S1
  cases da with
  | str z =>
    have hx := r1.str_
    subst hx
    unfold oLenSet at e
    dsimp only at e
    split at e
    · rename_i hh
      cases e
      exact ⟨z, rfl, hh.1, hh.2.1, hh.2.2, q _ rfl⟩
    · cases e
  | _ => cases e
end
theorem ov_lenSet {l : List Nat} (ha : ∀ c ∈ l, c < 128) (hn : l.Nodup) (hl : l.length ≤ 64) : oLenSet (.str (tx l)) = some (.int (l.length : Int)) := by
  unfold oLenSet
  dsimp only
  rw [if_pos ⟨by simp only [Array.all_eq_true', List.mem_toArray, decide_eq_true_eq]; exact ha, hn, hl⟩]
end GW

namespace GW
open PySem L2 PyProof.Rows
/-! ### a slot whose thing is one's own no longer -/
def Ctx.frz (C : Ctx) (i : Nat) : Ctx := { C with T := fun j => if j = i then 0 else C.T j }
section
variable {X : Cx} {C : Ctx} {wx : WX} {kr i : Nat} {F H : Hp} {B : AS} {σ : L2.St} {n : Int} {ds : DS}
theorem Sim.dropTo (S : Sim C F B σ H n ds) : Sim (C.frz i) F B σ H n (ds.set i none) where
  fh := S.fh
  bok := S.bok
  cell := S.cell
  pin := S.pin
  len := by rw [List.length_set]; exact S.len
  rep := by
    obtain ⟨A, h1, h2, h3⟩ := S.rep
    refine ⟨A, fun j d e => ?_, h2, h3⟩
    by_cases hj : i = j
    · subst hj
      by_cases hl : i < ds.length
      · rw [List.getElem?_set_self hl] at e; cases e
      · rw [List.getElem?_eq_none (by rw [List.length_set]; omega)] at e; cases e
    · rw [List.getElem?_set_ne hj] at e
      obtain ⟨v, a, r⟩ := h1 j d e
      refine ⟨v, a, ?_⟩
      have : (C.frz i).T j = C.T j := if_neg (Ne.symm hj)
      rw [this]; exact r
theorem Sim.dropFrom (S : Sim (C.frz i) F B σ H n ds) : Sim C F B σ H n (ds.set i none) where
  fh := S.fh
  bok := S.bok
  cell := S.cell
  pin := S.pin
  len := by rw [List.length_set]; exact S.len
  rep := by
    obtain ⟨A, h1, h2, h3⟩ := S.rep
    refine ⟨A, fun j d e => ?_, h2, h3⟩
    by_cases hj : i = j
    · subst hj
      by_cases hl : i < ds.length
      · rw [List.getElem?_set_self hl] at e; cases e
      · rw [List.getElem?_eq_none (by rw [List.length_set]; omega)] at e; cases e
    · rw [List.getElem?_set_ne hj] at e
      obtain ⟨v, a, r⟩ := h1 j d e
      refine ⟨v, a, ?_⟩
      have : (C.frz i).T j = C.T j := if_neg (Ne.symm hj)
      rw [this] at r; exact r
def sTail (i : Nat) (ms : MS) : MS := fun n ds => match ms n (ds.set i none) with
  | none => none
  | some (.rt d, n', ds') => some (.rt d, n', ds')
  | some (fl, n', ds') => some (fl, n', ds'.set i none)
theorem wss_switch {sts : List Stmt} {ms : MS} (h : PSs X sts (WS (C.frz i) wx kr ms)) : PSs X sts (WS C wx kr (sTail i ms)) := h.wk fun E σ H w => by
  obtain ⟨F, B, n, ds, S, h⟩ := w
  refine ⟨F, B, n, ds.set i none, S.dropTo, ?_⟩
  unfold WSL sTail at h
  unfold WSL
  cases e : ms n (ds.set i none) with
  | none => rw [e] at h; exact h
  | some p =>
    obtain ⟨fl, n', ds'⟩ := p
    rw [e] at h
    cases fl with
    | nx => exact fun σ' F' B' H' G S' => h σ' F' B' H' G S'.dropFrom
    | bk => exact fun σ' F' B' H' G S' => h σ' F' B' H' G S'.dropFrom
    | ct => exact fun σ' F' B' H' G S' => h σ' F' B' H' G S'.dropFrom
    | rt d => exact h
    | ex c fs => exact fun σ' F' B' H' od G S' => h σ' F' B' H' od G S'.dropFrom
end
theorem sv_tail {i : Nat} {ms : MS} {n n' : Int} {ds ds' : DS} {d : D} (h : ms n (ds.set i none) = some (.rt d, n', ds')) : sTail i ms n ds = some (.rt d, n', ds') := by
  unfold sTail; rw [h]
/-! ### list of a list of one's own, its items flat -/
def oListF : List D → Option D
  | [.lst ds] => if flats ds = true then some (.lst ds) else none
  | _ => none
section
variable {X : Cx} {C : Ctx} {wx : WX} {g : Rg} {k : Nat} {oe e : Expr} {p pos apos : Pos} {ms : Mo (List D)} {mo me : M}
theorem ve_listF (hm : X.mg "list" = none) (ha : PA X [e] (WA C wx .bo ms)) (hg : Gl X "list" := by rfl)
    (hs : starEach [e] X.env = (false, eval e X.env) :: starEach [] X.env := by rfl) (hpl : (backTo pos (starEach [] X.env)).any (·.1) = false := by rfl) (hK : X.K = C.K := by rfl) : PE X (.Call (.Name "list" p) [e] [] pos) (W C wx .fz 1 (mCB ms oListF)) := by
  refine (pe_callTy call_list_of hg hm PyProof.Rows.boot_list ha (by decide) (by decide) hs hpl).wk fun σ H Q w => ?_
  obtain ⟨F, B, n, ds, S, h⟩ := w
  refine ⟨F, B, n, ds, S, (h.bind fun F1 H1 F2 H2 v d G r => r.tr G).mono fun xs H1 ⟨F1, n1, da, G1, S1, r1, h1⟩ => ?_⟩
  obtain ⟨d, e, q⟩ := h1.retE
  unfold oListF at e
  split at e
  · rename_i l
    split at e
    · rename_i hf
      cases e
      obtain ⟨v, rfl, r⟩ := r1.one
      cases r with
      | lst hh l c =>
        rw [hK]
        refine ⟨_, _, rfl, .inl (sqL_mono hh (rg_same S1.fh)), fun p hp => ?_⟩
        obtain ⟨G2, S2⟩ := S1.newO (o := .lst _) hp
        exact q (.ref p) F1 _ G2 S2 ⟨fun a => a = p, .lstO (fun _ _ => False) upd_same rfl l (fun i v d a b => Rp.go0 (g := .fz) ((c i v d a b).flat_any (flats_get hf b) F1 0 (fun _ => False)) G2) (fun _ _ h => h.elim) (fun _ _ _ h => h.elim), Fr.one S1.fh hp rfl⟩
    · cases e
  · cases e
/-! ### x.find -/
def oFind (z : Str) : D → Option D
  | .str y => some (.int (Txt.find z y))
  | _ => none
theorem ve_find (ho : PE X oe (W C wx .bo 0 mo)) (he : PE X e (W C wx .bo 0 me))
    (hs : starEach [e] X.env = [(false, eval e X.env)] := by rfl) (hbase : attributeBase oe "find" X.env (eval oe X.env) = eval oe X.env := by rfl) (hline : (apos.endLine == pos.line) = true := by rfl) :
    PE X (.Call (.Attribute oe "find" apos) [e] [] pos) (W C wx g k (mM1 mo me oFind)) :=
  ve_m1 F.slot_str_find F.type_str_find mt_find (fun G H z y b d A hs r e => by
    cases r with
    | str => cases e; exact ⟨_, rfl, fun Q q => ⟨z, _, rfl, rfl, q⟩⟩
    | _ => cases e) ho he hs hbase hline
end
end GW

namespace GW
open PySem L2 PyProof.Rows
/-! ### min of a list of ints -/
def minL : List Int → Option Int
  | [] => none
  | [a] => some a
  | a :: b :: r => (minL (b :: r)).map fun m => if a ≤ m then a else m
theorem minL_le : ∀ {l : List Int} {m : Int}, minL l = some m → m ∈ l ∧ ∀ y ∈ l, m ≤ y
  | [], m, e => by cases e
  | [a], m, e => by cases e; exact ⟨List.mem_cons_self, fun y hy => by simp only [List.mem_singleton] at hy; omega⟩
  | a :: b :: r, m, e => by
    unfold minL at e
    cases h : minL (b :: r) with
    | none => rw [h] at e; cases e
    | some k =>
      rw [h] at e
      simp only [Option.map_some, Option.some.injEq] at e
      obtain ⟨h1, h2⟩ := minL_le h
      by_cases hk : a ≤ k
      · rw [if_pos hk] at e
        subst e
        refine ⟨List.mem_cons_self, fun y hy => ?_⟩
        rcases List.mem_cons.mp hy with rfl | hy
        · exact Int.le_refl _
        · have := h2 y hy; omega
      · rw [if_neg hk] at e
        subst e
        refine ⟨List.mem_cons_of_mem _ h1, fun y hy => ?_⟩
        rcases List.mem_cons.mp hy with rfl | hy
        · omega
        · exact h2 y hy
theorem minL_some : ∀ (a : Int) (l : List Int), ∃ m, minL (a :: l) = some m
  | a, [] => ⟨a, rfl⟩
  | a, b :: r => by
    obtain ⟨m, h⟩ := minL_some b r
    refine ⟨if a ≤ m then a else m, ?_⟩
    unfold minL
    rw [h]; rfl
theorem minL_is {l : List Int} {m : Int} (h1 : m ∈ l) (h2 : ∀ y ∈ l, m ≤ y) : minL l = some m := by
  cases l with
  | nil => cases h1
  | cons a r =>
    obtain ⟨k, hk⟩ := minL_some a r
    obtain ⟨h3, h4⟩ := minL_le hk
    have e1 := h2 k h3
    have e2 := h4 m h1
    rw [hk]
    congr 1
    omega
def oMin : List D → Option D
  | [.lst ds] => ((intsD ds).bind minL).map D.int
  | _ => none
theorem cs_min {K : PySem.W.Frag} : CalS K (rMin K) oMin := by
  intro G H vs ds d hs r0 e
  unfold oMin at e
  split at e
  · rename_i l
    obtain ⟨v, rfl, r⟩ := r0.one
    cases hb : intsD l with
    | none => rw [hb] at e; cases e
    | some bs =>
      rw [hb] at e
      cases hm : minL bs with
      | none =>
        simp only [Option.bind_some, hm] at e
        cases e
      | some k =>
        simp only [Option.bind_some, hm, Option.map_some, Option.some.injEq] at e
        subst e
        obtain ⟨h1, h2⟩ := minL_le hm
        cases r with
        | lst h l c =>
          have := ints_of (RpL.of l c) hb
          subst this
          refine ⟨_, rfl, fun Q q => ⟨_, bs, rfl, sqL_mono h hs, List.length_pos_of_mem h1, fun m hm1 hm2 => ?_⟩⟩
          have e1 := h2 m hm1
          have e2 := hm2 k h1
          have : m = k := by omega
          rw [this]; exact q
  · cases e
section
variable {X : Cx} {C : Ctx} {wx : WX} {g : Rg} {kr k : Nat} {e a b tg : Expr} {es : List Expr} {p p2 pos : Pos} {ms : Mo (List D)} {m ma mc mo : M}
theorem ve_min (hm : X.mg "min" = none) (ha : PA X [e] (WA C wx .bo ms)) (hg : Gl X "min" := by rfl) (hs : starEach [e] X.env = (false, eval e X.env) :: starEach [] X.env := by rfl) (hpl : (backTo pos (starEach [] X.env)).any (·.1) = false := by rfl) (hc : X.calm = true := by rfl) (hK : X.K = C.K := by rfl) : PE X (.Call (.Name "min" p) [e] [] pos) (W C wx g k (mCB ms oMin)) :=
  ve_callB (r := rMin C.K) (by rw [← hK]; exact cr_min hc) cs_min hm PyProof.Rows.boot_min ha hg (hs := hs) (hpl := hpl)
/-! ### a range from its end -/
def rvD (hi : Int) (n : Nat) : List D := (List.range n).map fun i => D.int (hi - (i : Nat))
theorem rv_len {hi : Int} {n : Nat} : (rvD hi n).length = n := by unfold rvD; simp
theorem yld_rv {F H : Hp} {hi : Int} {n : Nat} : Yld C.K F H (Itc hi (-1) n) (rvD hi n) := fun F' H' L i => by
  have hl : (rvD hi n).length = n := rv_len
  refine ⟨fun d hd => ?_, fun hn0 => (fun hn => ?_) (len_none hn0)⟩
  · have hlt : i < n := by
      have := (List.getElem?_eq_some_iff.mp hd).1
      omega
    have he : d = .int (hi + (i : Int) * (-1)) := by
      unfold rvD at hd
      rw [List.getElem?_map, List.getElem?_range hlt] at hd
      cases hd
      show D.int (hi - (i : Int)) = _
      rw [Int.mul_neg, Int.mul_one, Int.sub_eq_add_neg]
    subst he
    refine ⟨hlt, fun x H'' y => ?_⟩
    obtain ⟨y1, y2⟩ := y
    subst y1 y2
    exact ⟨.inl rfl, .int⟩
  · have := List.getElem?_eq_none_iff.mp hn
    exact hl ▸ this
noncomputable def mRev1 (m : M) : Mo (List D) := mb m fun d => ret (match d with | .int j => if r62 j = true then some (rvD ((j.toNat : Int) - 1) j.toNat) else none | _ => none)
noncomputable def mRev2 (ma mc : M) : Mo (List D) := mb ma fun d => mb mc fun d2 => ret (match d, d2 with | .int i, .int j => if r62 i = true ∧ r62 j = true then some (rvD (i + ((j - i).toNat : Int) - 1) (j - i).toNat) else none | _, _ => none)
theorem vi_rev1 (hm : X.mg "reversed" = none) (hmr : X.mg "range" = none) (ha : PE X a (W C wx .bo 0 m)) (hg : Gl X "reversed" := by rfl) (hgr : Gl X "range" := by rfl) (na : starEach [a] X.env = (false, eval a X.env) :: starEach [] X.env := by rfl)
    (hs : starEach [.Call (.Name "range" p2) [a] [] p] X.env = (false, eval (.Call (.Name "range" p2) [a] [] p) X.env) :: starEach [] X.env := by rfl) {p3 : Pos} : PI X tg (.Call (.Name "reversed" p3) [.Call (.Name "range" p2) [a] [] p] [] pos) (WI C wx (mRev1 m)) := (pi_revR hg hm (prg_1 hgr hmr ha na) hs).wk fun σ H Q w => by
  obtain ⟨F, B, n, ds, S, h⟩ := w
  refine ⟨F, B, n, ds, S, (h.bind fun F1 H1 F2 H2 v d G r => r).mono fun v H1 ⟨F1, n1, d, G1, S1, ⟨A, r1, f⟩, h1⟩ => ?_⟩
  obtain ⟨is, e, q⟩ := h1.retE
  cases d with
  | int j =>
    dsimp only at e
    split at e
    · rename_i hj
      cases e
      refine ⟨j, r1.int_, by omega, by omega, (r62_ok hj).1, (r62_ok hj).2, ?_⟩
      have e1 : (j - 0).toNat = j.toNat := by rw [Int.sub_zero]
      have e2 : (0 : Int) + ((j.toNat : Nat) : Int) - 1 = (j.toNat : Int) - 1 := by omega
      rw [e1, e2]
      exact q _ F1 H1 (GoC.refl S1.fh) S1 yld_rv
    · cases e
  | _ => cases e
theorem vi_rev2 (hm : X.mg "reversed" = none) (hmr : X.mg "range" = none) (ha : PE X a (W C wx .bo 0 ma)) (hb : PE X b (W C wx .bo 0 mc)) (hg : Gl X "reversed" := by rfl) (hgr : Gl X "range" := by rfl) (na : starEach [a, b] X.env = (false, eval a X.env) :: starEach [b] X.env := by rfl) (nb : starEach [b] X.env = (false, eval b X.env) :: starEach [] X.env := by rfl)
    (hpb : (backTo p (starEach [b] X.env)).any (·.1) = false := by rfl)
    (hs : starEach [.Call (.Name "range" p2) [a, b] [] p] X.env = (false, eval (.Call (.Name "range" p2) [a, b] [] p) X.env) :: starEach [] X.env := by rfl) {p3 : Pos} : PI X tg (.Call (.Name "reversed" p3) [.Call (.Name "range" p2) [a, b] [] p] [] pos) (WI C wx (mRev2 ma mc)) := (pi_revR hg hm (prg_2 hgr hmr ha hb na nb hpb) hs).wk fun σ H Q w => by
  obtain ⟨F, B, n, ds, S, h⟩ := w
  refine ⟨F, B, n, ds, S, (h.bind fun F1 H1 F2 H2 v d G r => r).mono fun v H1 ⟨F1, n1, d, G1, S1, ⟨A, r1, f⟩, h1⟩ => ?_⟩
  refine ⟨F1, B, n1, ds, S1, (h1.bind fun F1 H1 F2 H2 v d G r => r).mono fun v2 H2 ⟨F2, n2, d2, G2, S2, ⟨A2, r2, f2⟩, h2⟩ => ?_⟩
  obtain ⟨is, e, q⟩ := h2.retE
  cases d with
  | int i =>
    cases d2 with
    | int j =>
      dsimp only at e
      split at e
      · rename_i hj
        cases e
        exact ⟨i, j, r1.int_, r2.int_, (r62_ok hj.1).1, (r62_ok hj.1).2, (r62_ok hj.2).1, (r62_ok hj.2).2, q _ F2 H2 (GoC.refl S2.fh) S2 yld_rv⟩
      · cases e
    | _ => cases e
  | _ => cases e
/-! ### three stores at once -/
def sPar3 (i j l : Nat) (ms : Mo (List D)) : MS := sE ms fun as n ds => match as with
  | [a, b, c] => some (.nx, n, ((ds.set i (some a)).set j (some b)).set l (some c))
  | _ => none
theorem RpL.three {K : PySem.W.Frag} {G H : Hp} {vs : List V} {d d' d2 : D} (r : RpL K G H vs [d, d', d2]) : ∃ v v' v2, vs = [v, v', v2] ∧ Rp K G H 0 v d (fun _ => False) ∧ Rp K G H 0 v' d' (fun _ => False) ∧ Rp K G H 0 v2 d2 (fun _ => False) := by
  obtain ⟨l, c⟩ := r
  match vs, l with
  | [v, v', v2], _ => exact ⟨v, v', v2, rfl, c 0 v d rfl rfl, c 1 v' d' rfl rfl, c 2 v2 d2 rfl rfl⟩
theorem ws_par3 {i j l : Nat} {x y z : Str} {c : Expr} {px py pz pt : Pos} {kt k2 : Nat} {pt2 : Pos} (hi : SlotOk C i) (hj : SlotOk C j) (hl : SlotOk C l)
    (h : PS X (.Assign [.Tuple [.Name x px, .Name y py, .Name z pz] kt pt] (.Tuple [a, b, c] k2 pt2) pos) (tPar3 i j l (WA C wx .fz ms))) : PS X (.Assign [.Tuple [.Name x px, .Name y py, .Name z pz] kt pt] (.Tuple [a, b, c] k2 pt2) pos) (WS C wx kr (sPar3 i j l ms)) := h.wk fun E σ H w => by
  obtain ⟨F, B, n, ds, S, h⟩ := w
  refine ⟨F, B, n, ds, S, (wsl_e (R := RA C .fz) S h).mono fun vs H1 ⟨F1, n1, as, G1, S1, r1, h4⟩ => ?_⟩
  match as with
  | [d1, d2, d3] =>
    obtain ⟨v, v', v2, rfl, ra, rb, rc⟩ := RpL.three r1
    exact ⟨v, v', v2, rfl, h4 _ F1 B H1 (G1.toS S.qB) (((S1.set0 ra hi.1 hi.2).set0 rb hj.1 hj.2).set0 rc hl.1 hl.2)⟩
  | [] => exact h4.elim
  | [_] => exact h4.elim
  | [_, _] => exact h4.elim
  | _ :: _ :: _ :: _ :: _ => exact h4.elim
end
end GW

namespace GW
open PySem L2 PyProof.Rows PySem.Spec
/-! ### o.m(..): a method of one of the program's classes -/
def tMethS (C : Addr) (m : Str) (sp : Sp) (E : L2.St → XK) (ta : TE) (t : TA) : TE := fun σ H Q => ta σ H fun x H1 => ∃ a dx fs, x = .ref a ∧ H1 a = some (.ins C dx fs) ∧ fs.lookup m = none ∧
  t σ H1 fun vs H2 => sp (x :: vs) H2 Q (E σ)
theorem pe_methS {X : Cx} {CX : CXT} {k : Nat} {f C : Addr} {fd : FuncData} {ps : List Str} {sp : Sp} {E : L2.St → XK} {m : Str} {pos apos : Pos} {e o : Expr} {es : List Expr} {ta : TE} {t : TA} {pl : Sem Bool} (he : PE X o ta) (c : Cls X.K C) (hm : Meth X.K C m f) (F : FnOk X.prog X.w X.K X.mg X.base CX k f fd ps sp) (hr : Room k X.A) (hb : Binds X.K fd ps []) (hx : ∀ σ, PassesAt CX X σ (E σ)) (ha : PA X (e :: es) t)
    (hst : starEach (e :: es) X.env = (false, eval e X.env) :: starEach es X.env := by rfl) (hpl : (backTo pos (starEach es X.env)).any (·.1) = false := by rfl)
    (ht : eval (.Call (.Attribute o m apos) (e :: es) [] pos) X.env = (do
      let ov ← eval o X.env
      standAt apos.atName
      let (f, first) ← holding [ov] (getMethod ov m pl)
      callWith pos f first (backTo pos (starEach (e :: es) X.env)) (backToKw pos (keywordEach [] X.env))) := by rfl) :
    PE X (.Call (.Attribute o m apos) (e :: es) [] pos) (tMethS C m sp E ta t) := by
  refine ⟨fun pins s σ H Q I h => ?_⟩
  refine PySem.W.methodCall_KW (pl := pl) (thn (he.run pins s σ H _ I h) fun u s1 ⟨x, H1, I1, rx, a, dx, fs, ex, ea, l, q⟩ => ?_) ht
  subst ex
  obtain rfl : u = Value.ref a := rx
  refine getmeth_ok I1 ea c hm l ?_
  refine PySem.W.callWith_K (first := [.ref a]) (h₀ := X.base) I.ok.mod.kin hm.kp (thn (ha.run pos pins s1 σ H1 _ I1 q) fun us s2 ⟨vs, H2, I2, r, q2⟩ => ⟨I2.kIn, ?_⟩) hst hpl
  exact run_fnS (us := .ref a :: us) (vs := .ref a :: vs) F hr hb (hx σ) I2 (.cons rfl r) q2
/-- a method that stands to be called -/
structure AvM (P : Program) (w : World) (K : PySem.W.Frag) (mg : Str → Option Value) (base : Heap) (C0 : Addr) (m : Str) (ps : List Str) (k : Nat) (sp : Sp) : Prop where
  ex : ∃ (f : Addr) (fd : FuncData), Meth K C0 m f ∧ Binds K fd ps [] ∧ FnOk P w K mg base (L2.CX P w) k f fd ps sp
def isMeth (C0 : Addr) (m : Str) : D → Bool
  | .obj C1 fs => decide (C1 = C0) && (fs.lookup m).isNone
  | _ => false
def mMeth (C0 : Addr) (m : Str) (f : List D → Option (Ot D)) (mo : M) (ms : Mo (List D)) : M := mb mo fun d => if isMeth C0 m d = true then mb ms fun as => fun n _ => pureF f n (d :: as) else ret none
section
variable {X : Cx} {C : Ctx} {wx : WX} {g : Rg} {k kk kr np : Nat} {x m : Str} {p pos apos : Pos} {o e : Expr} {es : List Expr} {ps : List Str} {ms : Mo (List D)} {mo : M} {f : List D → Option (Ot D)} {C0 : Addr}
theorem lookup_none {fs : List (Str × V)} {fds : List (Str × D)} (h : fs.map (·.1) = fds.map (·.1)) {f : Str} (e : fds.lookup f = none) : fs.lookup f = none := by
  induction fds generalizing fs with
  | nil =>
    cases fs with
    | nil => rfl
    | cons p' r' => cases h
  | cons p r ih =>
    cases fs with
    | nil => cases h
    | cons p' r' =>
      obtain ⟨pk, pd⟩ := p
      obtain ⟨pk', pv⟩ := p'
      simp only [List.map_cons, List.cons.injEq] at h
      obtain ⟨h1, h2⟩ := h
      subst h1
      by_cases hk : f = pk'
      · subst hk
        rw [List.lookup_cons_self] at e
        cases e
      · have hb : (f == pk') = false := by simpa using hk
        rw [List.lookup_cons, hb] at e ⊢
        exact ih h2 e
theorem ve_meth {pl : Sem Bool} (F : AvM X.prog X.w X.K X.mg X.base C0 m ps kk (spM C.K none (np + 1) kr (pureF f))) (hc : Cls C.K C0) (hr : Room kk X.A) (tk : Takes X wx) (ho : PE X o (W C wx .fz 0 mo))
    (ha : PA X (e :: es) (WA C wx .fz ms)) (hlen : LenM ms np) (hst : starEach (e :: es) X.env = (false, eval e X.env) :: starEach es X.env := by rfl) (hpl : (backTo pos (starEach es X.env)).any (·.1) = false := by rfl)
    (ht : eval (.Call (.Attribute o m apos) (e :: es) [] pos) X.env = (do
      let ov ← eval o X.env
      standAt apos.atName
      let (f, first) ← holding [ov] (getMethod ov m pl)
      callWith pos f first (backTo pos (starEach (e :: es) X.env)) (backToKw pos (keywordEach [] X.env))) := by rfl) (hK : X.K = C.K := by rfl) :
    PE X (.Call (.Attribute o m apos) (e :: es) [] pos) (W C wx .fz kr (mMeth C0 m f mo ms)) := by
  obtain ⟨fa, fd, hm, hbd, Ff⟩ := F.ex
  refine (pe_methS (pl := pl) ho (by rw [hK]; exact hc) hm Ff hr hbd (fun σ => passAt tk σ) ha hst hpl ht).wk fun σ H Q w => ?_
  obtain ⟨F, B, n, ds, S, h⟩ := w
  refine ⟨F, B, n, ds, S, (h.bind fun F1 H1 F2 H2 v d G r => r.tr G).mono fun x H1 ⟨F1, n1, d, G1, S1, ⟨A1, r1, f1⟩, h1⟩ => ?_⟩
  by_cases hd : isMeth C0 m d = true
  · rw [if_pos hd] at h1
    cases d with
    | obj C1 fds =>
      unfold isMeth at hd
      rw [Bool.and_eq_true, decide_eq_true_eq, Option.isNone_iff_eq_none] at hd
      obtain ⟨rfl, hl0⟩ := hd
      have r10 := r1
      cases r1 with
      | obj hh l c =>
        refine ⟨_, _, _, rfl, rg_same S1.fh _ _ hh, lookup_none l hl0, ?_⟩
        refine ⟨F1, B, n1, ds, S1, WL.strong hlen ((h1.bind (R := fun H F' H' vs as => RA C .fz H F' H' vs as ∧ as.length = np) fun F1 H1 F2 H2 v d G r => r.tr G).mono fun vs H2 ⟨F2, n2, d2, G2, S2, ⟨r2, hl⟩, h2⟩ => ?_)⟩
        refine spM_of (g := .fz) (as := _ :: d2) (RR := RV C .fz kr) (fun _ => ⟨f, rfl⟩) S2 ⟨by simp [r2.1], fun i v' d' _ e1 e2 => ?_, fun i hi => by cases hi⟩ (by simp [hl]) (fun d v F' H' G r _ => r) (fun _ _ _ _ h => by cases h) h2
        cases i with
        | zero =>
          simp only [List.getElem?_cons_zero, Option.some.injEq] at e1 e2
          subst e1 e2
          exact Rp.go0 (g := .fz) r10 G2
        | succ i => exact r2.2 i v' d' (by simpa using e1) (by simpa using e2)
    | _ => cases hd
  · rw [if_neg hd] at h1
    exact h1.retE.elim fun _ z => by cases z.1
/-! ### f(..), the last argument left out -/
def mCallD (z : Str) (f : List D → Option (Ot D)) (ms : Mo (List D)) : M := mb ms fun as => fun n _ => pureF f n (as ++ [.str z])
theorem binds_all {K : PySem.W.Frag} {fd : FuncData} {ps : List Str} (h : ∃ ds, Vals [] ds ∧ L2.Binds K fd ps ds) : L2.Binds K fd ps [] := by
  obtain ⟨ds, h1, h2⟩ := h
  cases h1
  exact h2
structure AvD (P : Program) (w : World) (K : PySem.W.Frag) (mg : Str → Option Value) (base : Heap) (x : Str) (ps : List Str) (k : Nat) (sp : Sp) (z : Str) : Prop where
  ex : ∃ (f : Addr) (fd : FuncData) (ds : List Value), mg x = some (.ref f) ∧ PySem.W.keepIn K (.ref f) = true ∧ Vals [.str z] ds ∧ Binds K fd ps ds ∧ FnOk P w K mg base (L2.CX P w) k f fd ps sp
theorem ve_callD {z : Str} (F : AvD X.prog X.w X.K X.mg X.base x ps kk (spM C.K none (np + 1) kr (pureF f)) z) (hr : Room kk X.A) (tk : Takes X wx)
    (ha : PA X (e :: es) (WA C wx .fz ms)) (hlen : LenM ms np) (hg : Gl X x := by rfl) (hdb : (x == ("__debug__" : Str)) = false := by decide) (he : starEach (e :: es) X.env = (false, eval e X.env) :: starEach es X.env := by rfl) (hpl : (backTo pos (starEach es X.env)).any (·.1) = false := by rfl) :
    PE X (.Call (.Name x p) (e :: es) [] pos) (W C wx .fz kr (mCallD z f ms)) := by
  obtain ⟨fa, fd, vd, hm, hk, hv, hbd, Ff⟩ := F.ex
  refine (pe_callSD Ff hr hg hm hk hbd hv (fun σ => passAt tk σ) ha hdb he hpl).wk fun σ H Q w => ?_
  obtain ⟨F, B, n, ds, S, h⟩ := w
  refine ⟨F, B, n, ds, S, WL.strong hlen ((h.bind (R := fun H F' H' vs as => RA C .fz H F' H' vs as ∧ as.length = np) fun F1 H1 F2 H2 v d G r => r.tr G).mono fun vs H1 ⟨F2, n2, d2, G2, S2, ⟨r2, hl⟩, h2⟩ => ?_)⟩
  refine spM_of (g := .fz) (as := d2 ++ [.str z]) (RR := RV C .fz kr) (fun _ => ⟨f, rfl⟩) S2 ⟨by simp [r2.1], fun i v' d' _ e1 e2 => ?_, fun i hi => by cases hi⟩ (by simp [hl]) (fun d v F' H' G r _ => r) (fun _ _ _ _ h => by cases h) h2
  by_cases hi : i < vs.length
  · rw [List.getElem?_append_left hi] at e1
    rw [List.getElem?_append_left (by rw [← r2.1]; exact hi)] at e2
    exact r2.2 i v' d' e1 e2
  · have h1 := (List.getElem?_eq_some_iff.mp e1).1
    rw [List.length_append, List.length_singleton] at h1
    have : i = vs.length := by omega
    subst this
    rw [List.getElem?_append_right (Nat.le_refl _), Nat.sub_self] at e1
    rw [List.getElem?_append_right (by rw [r2.1]; exact Nat.le_refl _), r2.1, Nat.sub_self] at e2
    cases e1; cases e2
    exact .str
end
end GW

namespace GW
open PySem L2 PyProof.Rows
/-! ### a slot's own thing is let stand -/
section
variable {X : Cx} {C : Ctx} {wx : WX} {kr i : Nat} {F H : Hp} {B : AS} {σ : L2.St} {n : Int} {ds : DS}
theorem Sim.frzTo (S : Sim C F B σ H n ds) (i : Nat) : ∃ F1 B1, GoS B F H B1 F1 H ∧ Sim (C.frz i) F1 B1 σ H n ds := by
  classical
  obtain ⟨A, h1, h2, h3⟩ := S.rep
  let F1 : Hp := fun a => if A i a then H a else F a
  have hA : ∀ a, A i a → F1 a = H a := fun a h => if_pos h
  have hN : ∀ a, ¬ A i a → F1 a = F a := fun a h => if_neg h
  have ff : Same F F1 := fun a o e => by
    by_cases h : A i a
    · have q := (S.bok a (h2 i a h).1).1
      rw [q] at e; cases e
    · rw [hN a h]; exact e
  have fh : Same F1 H := fun a o e => by
    by_cases h : A i a
    · rw [hA a h] at e; exact e
    · rw [hN a h] at e; exact S.fh a o e
  refine ⟨F1, fun a => B a ∧ ¬ A i a, ⟨ff, fh, fun _ _ e _ => e, fun _ _ e _ => e, fun a o e h hb => ?_, fun a ha => .inl ha.1, fun _ o e => ⟨o, e⟩⟩, ⟨fh, fun a ha => ?_, fun q hq => ⟨⟨(S.cell q hq).1, fun z => (h2 i q z).2 hq⟩, (S.cell q hq).2⟩, S.pin, S.len, ?_⟩⟩
  · rw [hN a fun z => hb (h2 i a z).1]; exact e
  · exact ⟨by rw [hN a ha.2]; exact (S.bok a ha.1).1, (S.bok a ha.1).2⟩
  · refine ⟨fun j a => j ≠ i ∧ A j a, fun j d e => ?_, fun j a h => ⟨⟨(h2 j a h.2).1, fun z => h.1 (h3 j i a h.2 z)⟩, (h2 j a h.2).2⟩, fun j j' a h h' => h3 j j' a h.2 h'.2⟩
    obtain ⟨v, e1, r⟩ := h1 j d e
    refine ⟨v, e1, ?_⟩
    by_cases hj : j = i
    · subst hj
      have : (C.frz j).T j = 0 := if_pos rfl
      rw [this]
      exact r.frz ff fun a o ha e => by rw [hA a ha]; exact e
    · have : (C.frz i).T j = C.T j := if_neg hj
      rw [this]
      exact (r.mono ff (fun a o e _ => e) fun a o _ e => e).sup fun a ha => ⟨hj, ha⟩
def sFrz (i : Nat) (ms : MS) : MS := fun n ds => match ms n ds with
  | none => none
  | some (.rt d, n', ds') => some (.rt d, n', ds')
  | some (fl, n', ds') => some (fl, n', ds'.set i none)
theorem wss_freeze {sts : List Stmt} {ms : MS} (h : PSs X sts (WS (C.frz i) wx kr ms)) : PSs X sts (WS C wx kr (sFrz i ms)) := h.wk fun E σ H w => by
  obtain ⟨F, B, n, ds, S, h⟩ := w
  obtain ⟨F1, B1, G0, S1⟩ := S.frzTo i
  refine ⟨F1, B1, n, ds, S1, ?_⟩
  unfold WSL sFrz at h
  unfold WSL
  cases e : ms n ds with
  | none => rw [e] at h; exact h
  | some p =>
    obtain ⟨fl, n', ds'⟩ := p
    rw [e] at h
    cases fl with
    | nx => exact fun σ' F' B' H' G S' => h σ' F' B' H' (G0.trans G) S'.dropFrom
    | bk => exact fun σ' F' B' H' G S' => h σ' F' B' H' (G0.trans G) S'.dropFrom
    | ct => exact fun σ' F' B' H' G S' => h σ' F' B' H' (G0.trans G) S'.dropFrom
    | rt d => exact RtP.tr G0 h
    | ex c fs => exact fun σ' F' B' H' od G S' x => h σ' F' B' H' od (G0.trans G) S'.dropFrom x
end
theorem sv_frzR {i : Nat} {ms : MS} {n n' : Int} {ds ds' : DS} {d : D} (h : ms n ds = some (.rt d, n', ds')) : sFrz i ms n ds = some (.rt d, n', ds') := by
  unfold sFrz; rw [h]
theorem sv_frzN {i : Nat} {ms : MS} {n n' : Int} {ds ds' : DS} (h : ms n ds = some (.nx, n', ds')) : sFrz i ms n ds = some (.nx, n', ds'.set i none) := by
  unfold sFrz; rw [h]
/-! ### the empty list, one's own to any depth -/
section
variable {X : Cx} {C : Ctx} {wx : WX} {k kk : Nat} {pos : Pos}
theorem ve_lstE : PE X (.List [] pos) (W C wx .fz (k + 1) (mLst (ret (some [])))) := by
  refine (pe_lst pa_nil).wk fun σ H Q w => ?_
  obtain ⟨F, B, n, ds, S, h⟩ := w
  have h : WL C wx (RV C .fz (k + 1)) (GW.ret (some (.lst []))) F B n ds σ H Q := h
  obtain ⟨d, e, q⟩ := h.retE
  cases e
  refine ⟨by show 0 ≤ sizeLine; exact Nat.zero_le _, fun p hp => ?_⟩
  obtain ⟨G2, S2⟩ := S.newO (o := .lst []) hp
  exact q (.ref p) F _ G2 S2 ⟨fun a => a = p, .lstO (fun _ _ => False) upd_same rfl rfl (fun i v d a b => by simp at a) (fun _ _ h => h.elim) (fun _ _ _ h => h.elim), Fr.one S.fh hp rfl⟩
end
/-! ### tuple + tuple -/
def oCatT : D → D → Option D
  | .tup as, .tup bs => if as.length + bs.length ≤ 16777216 then some (.tup (as ++ bs)) else none
  | _, _ => none
section
variable {X : Cx} {C : Ctx} {wx : WX} {k : Nat} {a b : Expr} {pos : Pos} {ma mc : M}
theorem ve_catT (ha : PE X a (W C wx .fz 0 ma)) (hb : PE X b (W C wx .fz 0 mc)) (hK : X.K = C.K := by rfl) : PE X (.BinOp a .Add b pos) (W C wx .fz k (m2 ma mc oCatT)) :=
  (pe_op (r := rCatA C.K) (by rw [← hK]; exact op_catA) ha hb).wk fun σ H Q w => by
  obtain ⟨F, B, n, ds, S, h⟩ := w
  refine ⟨F, B, n, ds, S, (h.bind fun F1 H1 F2 H2 v d G r => r.tr G).mono fun x H1 ⟨F1, n1, da, G1, S1, ⟨A1, r1, f1⟩, h1⟩ => ?_⟩
  refine ⟨F1, B, n1, ds, S1, (h1.bind fun F1 H1 F2 H2 v d G r => r.tr G).mono fun y H2 ⟨F2, n2, db, G2, S2, ⟨A2, r2, f2⟩, h2⟩ => ?_⟩
  obtain ⟨d, e, q⟩ := h2.retE
  have r1' : Rp C.K F2 H2 0 x da (fun _ => False) := Rp.go0 (g := .fz) r1 G2
  unfold oCatT at e
  split at e
  · rename_i as bs
    split at e
    · rename_i hl
      cases e
      cases r1' with
      | @tup _ _ p1 vs1 _ hh1 l1 c1 =>
        cases r2 with
        | @tup _ _ p2 vs2 _ hh2 l2 c2 =>
          refine ⟨p1, p2, vs1, vs2, rfl, rfl, hh1, hh2, by rw [sizeLine_eq, l1, l2]; exact hl, fun z => ?_, fun _ z => ?_, fun _ _ p hp => ?_⟩
          · subst z
            have e0 := List.length_eq_zero_iff.mp l1.symm
            subst e0
            exact q (.ref p2) F2 H2 (GoC.refl S2.fh) S2 (RV_of0 (.tup hh2 l2 fun i v d a b => (c2 i v d a b).z))
          · subst z
            have e0 := List.length_eq_zero_iff.mp l2.symm
            subst e0
            rw [List.append_nil] at q
            exact q (.ref p1) F2 H2 (GoC.refl S2.fh) S2 (RV_of0 (.tup hh1 l1 fun i v d a b => (c1 i v d a b).z))
          · obtain ⟨G3, S3⟩ := S2.newO (o := .tup (vs1 ++ vs2)) hp
            have R := RpL.append (K := C.K) (G := F2) (H := H2) (vs := vs1) (ws := vs2) ⟨l1, fun i v d a b => (c1 i v d a b).z⟩ ⟨l2, fun i v d a b => (c2 i v d a b).z⟩
            exact q (.ref p) F2 _ G3 S3 (RV_of0 (.tup (.inl (.inl upd_same)) R.1 fun i v d a b => Rp.go0 (g := .fz) (R.2 i v d a b) G3))
    · cases e
  · cases e
end
end GW

namespace GW
open PySem L2 PyProof.Rows
/-! ### a thing that stands in a list of one's own -/
def mOwnIx (i : Nat) (mp : Mo Pth) (mj : M) : M := mb mp fun π => mb mj fun z => fun n ds => match ds[i]? with
  | some (some d0) => (match getP π d0, z with
    | some (.lst as), .int j => ret (atI as j) n ds
    | _, _ => none)
  | _ => none
section
variable {X : Cx} {C : Ctx} {wx : WX} {o b : Expr} {pos : Pos} {mp : Mo Pth} {mj : M}
theorem ve_ownIx {i l : Nat} (ho : PE X o (WPl C wx i mp)) (hl : PlT mp l) (hT : C.T i = l + 1) (hb : PE X b (W C wx .bo 0 mj)) (hs : PlainIx b := by intro _ _; rfl) (hK : X.K = C.K := by rfl) : PE X (.Subscript o b pos) (W C wx .fz 0 (mOwnIx i mp mj)) :=
  (pe_ix (r := rIxL C.K) (by rw [← hK]; exact ix_list) ho hb hs).wk fun σ H Q w => by
  obtain ⟨F, B, n, ds, S, h⟩ := w
  refine ⟨F, B, n, ds, S, WL.strong hl ((h.bind (R := fun H F' H' v d => RPl σ i H F' H' v d ∧ d.len = l) fun F1 H1 F2 H2 v d G r => r.tr G).mono fun x H1 ⟨F1, n1, π, G1, S1, ⟨⟨p, hvp, hpv⟩, hπ⟩, h1⟩ => ?_)⟩
  subst hvp
  refine ⟨F1, B, n1, ds, S1, (h1.bind fun F1 H1 F2 H2 v d G r => r.tr G).mono fun y H2 ⟨F2, n2, z, G2, S2, ⟨A2, r2, f2⟩, h2⟩ => ?_⟩
  unfold WL at h2
  cases hd : ds[i]? with
  | none => simp only [hd] at h2
  | some x =>
    cases x with
    | none => simp only [hd] at h2
    | some d0 =>
      simp only [hd] at h2
      cases he : getP π d0 with
      | none => simp only [he] at h2
      | some e0 =>
        cases e0 with
        | lst as =>
          cases z with
          | int j =>
            have ey := r2.int_
            subst ey
            simp only [he] at h2
            obtain ⟨Ae, N1⟩ := S1.nodeP hd he rfl (k := 0) (by rw [hT]) hπ hpv
            obtain ⟨Ae2, N2⟩ := S2.nodeP hd he rfl (k := 0) (by rw [hT]) hπ (N1.keep F2 H2 G2)
            obtain ⟨vs2, hvs2, rv2, mu⟩ := N2.lst
            cases hx : ixN as.length j with
            | none =>
              have : atI as j = none := by unfold atI; rw [hx]; rfl
              simp only [this, ret] at h2
            | some t =>
              have e1 : atI as j = as[t]? := by unfold atI; rw [hx]; rfl
              cases ht : as[t]? with
              | none =>
                rw [ht] at e1
                simp only [e1, ret] at h2
              | some d =>
                rw [ht] at e1
                simp only [e1, ret] at h2
                have htl := (List.getElem?_eq_some_iff.mp ht).1
                have htv : t < vs2.length := by rw [rv2.1]; exact htl
                have hv : vs2[t]? = some vs2[t] := List.getElem?_eq_getElem htv
                refine ⟨p, vs2, j, vs2[t], rfl, rfl, .inl (.inl hvs2), ?_, h2 _ F2 H2 (GoC.refl S2.fh) S2 (RV_of0 (rv2.2 t _ d hv ht).z)⟩
                unfold atI
                rw [rv2.1, hx]
                exact hv
          | _ => simp only [he] at h2
        | _ => simp only [he] at h2
end
end GW

namespace GW
open PySem L2 PyProof.Rows
/-! ### behind one token: text.replace of written texts -/
section
variable {X : Cx} {C : Ctx} {wx : WX} {g : Rg} {k kr : Nat} {e o : Expr} {es : List Expr} {m : M} {pos : Pos} {st : Stmt} {sts : List Stmt} {ma mc : MS}
theorem pet_wk {t t' : TE} (h : PET X e t) (w : ∀ σ H Q, t' σ H Q → t σ H Q) : PET X e t' := fun pins s σ H Q h0 I q => h pins s σ H Q h0 I (w _ _ _ q)
theorem pat_wk {t t' : TA} (h : PAT X es t) (w : ∀ σ H Q, t' σ H Q → t σ H Q) : PAT X es t' := fun pos pins s σ H Q h0 I q => h pos pins s σ H Q h0 I (w _ _ _ q)
theorem pst_wk {t t' : TS} (h : PST X st t) (w : ∀ D σ H, t' D σ H → t D σ H) : PST X st t' := fun pins s σ H D h0 I q => h pins s σ H D h0 I (w _ _ _ q)
theorem psst_wk {t t' : TS} (h : PSsT X sts t) (w : ∀ D σ H, t' D σ H → t D σ H) : PSsT X sts t' := fun pins s σ H D h0 I q => h pins s σ H D h0 I (w _ _ _ q)
def oRepl (y z : Str) : D → Option D
  | .str x => if x.length + (x.length + 1) * z.length ≤ 16777216 then some (.str (Txt.replace x y z)) else none
  | _ => none
theorem vet_repl {y z : Str} {i j : Nat} {c0 c1 apos : Pos} (ho : PET X o (W C wx g 0 m)) (hyz : (y == z) = false := by decide)
    (hst : starEach [.Constant (.str y) i c0, .Constant (.str z) j c1] X.env = [(false, eval (.Constant (.str y) i c0) X.env), (false, eval (.Constant (.str z) j c1) X.env)] := by rfl)
    (hbase : attributeBase o "replace" X.env (eval o X.env) = eval o X.env := by rfl) (hline : (apos.endLine == pos.line) = true := by rfl) :
    PET X (.Call (.Attribute o "replace" apos) [.Constant (.str y) i c0, .Constant (.str z) j c1] [] pos) (W C wx g k (m1 m (oRepl y z))) := by
  refine pet_wk (CwR.pet_replT ho hyz hst hbase hline) fun σ H Q w => ?_
  refine w.imp (t := fun σ H Q => CwR.tReplC _ y z σ H Q) fun F B n ds S h => ?_
  refine ⟨F, B, n, ds, S, (h.bind fun F1 H1 F2 H2 v d G r => r.tr G).mono fun v H1 ⟨F1, n1, d, G1, S1, ⟨A1, r1, f1⟩, h1⟩ => ?_⟩
  obtain ⟨d2, e2, q⟩ := h1.sc S1
  cases d with
  | str x =>
    have := r1.str_
    subst this
    unfold oRepl at e2
    simp only at e2
    split at e2
    · rename_i hl
      cases e2
      exact ⟨x, rfl, hl, q _ rfl⟩
    · cases e2
  | _ => cases e2
theorem vat_nil : PAT X [] (WA C wx g (ret (some []))) := fun pos pins s σ H Q _ I q => va_nil.run pos pins s σ H Q I q
theorem vat_of {ms : Mo (List D)} (h : PA X es (WA C wx g ms)) : PAT X es (WA C wx g ms) := fun pos pins s σ H Q _ I q => h.run pos pins s σ H Q I q
theorem vat_cons {ms : Mo (List D)} (ha : PET X e (W C wx g 0 m)) (hr : PAT X es (WA C wx g ms)) (hs : starEach (e :: es) X.env = (false, eval e X.env) :: starEach es X.env := by rfl) : PAT X (e :: es) (WA C wx g (mCons m ms)) := by
  refine pat_wk (pat_cons ha hr hs) fun σ H Q w => ?_
  obtain ⟨F, B, n, ds, S, h⟩ := w
  refine ⟨F, B, n, ds, S, (h.bind fun F1 H1 F2 H2 v d G r => r).mono fun x H1 ⟨F1, n1, d, G1, S1, ⟨A1, r1, f1⟩, h1⟩ => ?_⟩
  refine ⟨F1, B, n1, ds, S1, (h1.bind fun F1 H1 F2 H2 v d G r => r).mono fun xs H2 ⟨F2, n2, d2, G2, S2, r2, h2⟩ => ?_⟩
  obtain ⟨d3, e3, q⟩ := h2.retE
  cases e3
  exact q (x :: xs) F2 H2 (GoC.refl S2.fh) S2 (RpL.cons (r1.go0 (A' := fun _ => False) G2) r2)
theorem pet_tup {x1 : Nat} {t : TA} (h : PAT X es t) : PET X (.Tuple es x1 pos) (tTup t) := fun pins s σ H Q h0 I hq => wpAny_Tuple_spliced (thn (h pos pins s σ H _ h0 I hq) fun us s1 ⟨xs, H1, I1, r, z, q⟩ => by
  have hf := I1.hok.fresh (Nat.le_refl s1.heap.objs.size)
  refine ⟨by rw [← r.length]; exact z, .ref s1.heap.objs.size, upd H1 s1.heap.objs.size (.tup xs), ?_, rfl, q _ hf⟩
  refine I1.laid (t' := s1.toks) (fun b u e => Heap.get?_push_of_some _ e) (Nat.le_refl _) ?_
  exact ⟨z, us, r, ⟨_, Heap.get?_push_size _ rfl, rfl, _, rfl⟩⟩)
theorem vet_tup {x1 : Nat} {ms : Mo (List D)} (h : PAT X es (WA C wx g ms)) : PET X (.Tuple es x1 pos) (W C wx g k (mTup ms)) := by
  refine pet_wk (pet_tup h) fun σ H Q w => ?_
  obtain ⟨F, B, n, ds, S, h⟩ := w
  refine ⟨F, B, n, ds, S, (h.bind fun F1 H1 F2 H2 v d G r => r.tr G).mono fun xs H1 ⟨F1, n1, d, G1, S1, r1, h1⟩ => ?_⟩
  obtain ⟨d2, e2, q⟩ := h1.retE
  split at e2
  · rename_i hl
    cases e2
    refine ⟨by rw [sizeLine_eq, r1.1]; exact hl, fun p hp => ?_⟩
    obtain ⟨G2, S2⟩ := S1.newO (o := .tup xs) hp
    refine q (.ref p) F1 _ G2 S2 (RV_of0 (.tup (.inl (.inl upd_same)) r1.1 fun i v d a b => ?_))
    exact Rp.go0 (r1.2 i v d a b) G2
  · cases e2
theorem wst_ret {m : M} (he : PET X e (W C.stand wx .fz kr m)) : PST X (.Return (some e) pos) (WS C wx kr (sRet m)) := pst_wk (CwR.pst_ret he) fun E σ H w => by
  obtain ⟨F, B, n, ds, S, h⟩ := w
  obtain ⟨F0, G0, S0⟩ := S.stand
  refine ⟨F0, fun a => C.q = some a, n, ds, S0, ?_⟩
  unfold WSL at h
  unfold WL
  cases e : m n ds with
  | none => simp only [sRet, sE, e] at h
  | some p =>
    obtain ⟨o, n'⟩ := p
    cases o with
    | ok d =>
      simp only [sRet, sE, e] at h
      rintro v F' H' G S' ⟨A, r, f⟩
      refine h v (fun a => C.q = some a) F' H' A (G0.trans (G.toS fun _ z => z)) (fun q hq => ⟨(S'.cell q hq).2, (S'.bok q hq).1⟩) r fun a ha => ?_
      exact ⟨.inr (f a ha).1, (f a ha).2.1, fun z => S.nq z (f a ha).1, (f a ha).2.2⟩
    | ex c fs =>
      simp only [sRet, sE, e] at h
      intro F' H' od G S' x
      have G1 : GoC C.q F H F H' := ⟨⟨Same.refl _, fun a o e => G.go.hh a o (S.fh a o e) fun z => by
        have q := (S.bok a (S.cell a z).1).1
        rw [q] at e; exact absurd e (by simp), G.go.hh, G.go.ht, fun a o n _ => n⟩, G.dm⟩
      exact h σ F B H' od (G1.toS S.qB) (S.go G1 fun q hq => (S'.cell q hq).2) x
theorem wst_of (h : PS X st (WS C wx kr ma)) : PST X st (WS C wx kr ma) := fun pins s σ H D _ I q => h.run pins s σ H D I q
theorem wst_cons (h1 : PST X st (WS C wx kr ma)) (h2 : PSsT X sts (WS C wx kr mc)) : PSsT X (st :: sts) (WS C wx kr (sSeq ma mc)) := psst_wk (psst_cons h1 h2) fun E σ H w => by
  obtain ⟨F, B, n, ds, S, h⟩ := w
  exact ⟨F, B, n, ds, S, wsl_seq h⟩
theorem wst_one (h1 : PST X st (WS C wx kr ma)) : PSsT X [st] (WS C wx kr ma) := CwR.psst_one h1
end
section
variable {P : Program} {w : World} {K : PySem.W.Frag} {mg : Str → Option Value} {base : Heap}
theorem def_ok0T {x qual : Str} {params : Arguments} {body : List Stmt} {scope : Scope} {dvs : List V} {kws : List (Str × V)} {f : Addr} {fd : FuncData} {N ps : List Str} {k kr : Nat} {T : Nat → Nat} {ms : MS} (Fu : FunD K x qual params body scope dvs kws f fd) (S : FnScope N ps scope)
    (hnc : ∀ y ∈ scope.names, y.2 ≠ .cell) (hps : 1 ≤ ps.length) (hT : ∀ i, i < ps.length → T i = 0)
    (hb : ∀ (cdv : Value) (A : Around) (outer : List Env) (s : Shared) (H : Hp) (E : XK), Room k (A.deeper (envOfC qual scope s.heap.objs.size f cdv)) →
      PSsT (cxOf (L2.CX P w) P w K mg base N qual scope f cdv A outer s H E) body (WS ⟨K, none, T, fun _ => none⟩ (fun c d _ H => E c d H) kr ms)) :
    FnOk P w K mg base (L2.CX P w) (k + 1) f fd ps (spM K none ps.length kr (pureF (fn0 N.length ms))) := by
  obtain ⟨oc, od, dV, kV, doc, pm, an, cdv, ct, osl, rfl, lk, hcd, _, _⟩ := Fu.ex
  refine fn_ofT lk hcd S hnc hps (fun vs H Q E h => h.1) fun A outer s H vs Q E hr h => ⟨_, hb cdv A outer s H E hr, ?_⟩
  obtain ⟨hlen, F, q, n, as, fh, hq, _, hl, hrep, hm⟩ := h
  have hq := hq rfl
  subst hq
  refine ⟨F, fun _ => False, 0, startD N.length as, sim_start (ci := none) fh hl hrep (fun i hi => hT i (by rw [← hlen]; exact hi)) (fun _ h => h.elim) (fun _ h => by cases h) (fun _ _ h => by cases h), ?_⟩
  have go : ∀ {B' : AS} {F' H' : Hp}, GoS (fun _ => False) F H B' F' H' → GoC none F H F' H' := fun G => ⟨⟨G.ff, G.fh, fun a o e _ => G.hh a o e fun z => z, G.ht, fun a o n e => G.nf a o n e fun z => z⟩, G.dm⟩
  unfold pureF fn0 at hm
  unfold WSL
  cases e : ms 0 (startD N.length as) with
  | none => simp only [e, outF, Option.map_none] at hm
  | some pp =>
    obtain ⟨fl, n', ds'⟩ := pp
    cases fl with
    | nx =>
      simp only [e, outF, Option.map_some] at hm
      exact fun σ' F' B' H' G _ => hm .non F' H' (go G) (fun _ h => by cases h) ⟨fun _ => False, .non, Fr.no⟩
    | bk => simp only [e, outF, Option.map_none] at hm
    | ct => simp only [e, outF, Option.map_none] at hm
    | rt d =>
      simp only [e, outF, Option.map_some] at hm
      exact fun v B' F' H' A G _ r f => hm v F' H' (go G) (fun _ h => by cases h) ⟨A, r, fun a ha => ⟨(f a ha).1.elim (fun z => z.elim) id, (f a ha).2.1, (f a ha).2.2.2⟩⟩
    | ex c fs =>
      simp only [e, outF, Option.map_some] at hm
      exact fun σ' F' B' H' od G _ xr => hm F' H' od (go G) (fun _ h => by cases h) xr
end
end GW

namespace GW
open PySem L2 PyProof.Rows
/-! ### data set in order -/
def pp (d : D) : PyData := (toP d).getD .none
def noN : PyData → Bool
  | .none => false
  | _ => true
theorem noN_ne {p : PyData} (h : noN p = true) : p ≠ .none := fun z => by rw [z] at h; cases h
def dlt (a b : D) : Bool := PySem.W.dataLt (pp a) (pp b)
def oLtQ (a b : D) : Option D := match toP a, toP b with
  | some p, some q => if (PySem.W.alike p q && (noN p && decide (p.depth ≤ 60))) = true then some (.bl (PySem.W.dataLt p q)) else none
  | _, _ => none
def rLtD (K : PySem.W.Frag) : R2 := fun x y H Q => ∃ d e, L2.Dp K H x d ∧ L2.Dp K H y e ∧ PySem.W.alike d e = true ∧ d ≠ .none ∧ d.depth ≤ 60 ∧ Q (.bl (PySem.W.dataLt d e)) H
section
variable {X : Cx}
theorem op_ltD (hu : X.A.units + 64 < cLine) : OpR X (compareOp .Lt) (rLtD X.K) := by
  intro pins s σ H x y v u Q I rx ry h
  obtain ⟨d, e, hd, he, ha, hn, hz, q⟩ := h
  obtain ⟨as, r1⟩ := L2.Dp.reads I d x v hd rx
  obtain ⟨bs, r2⟩ := L2.Dp.reads I e y u he ry
  refine PySem.W.lt_data r1 r2 ha hn ?_ ⟨.bl _, H, I, rfl, q⟩
  have := Nat.min_le_left d.depth e.depth
  omega
end
theorem os_ltQ {K : PySem.W.Frag} : OpS K (rLtD K) oLtQ := by
  intro G H x y a b d A A' hs ra rb e
  unfold oLtQ at e
  split at e
  · rename_i p q h1 h2
    split at e
    · rename_i hc
      cases e
      simp only [Bool.and_eq_true, decide_eq_true_eq] at hc
      exact ⟨_, rfl, fun Q z => ⟨p, q, dp_of hs ra rfl h1, dp_of hs rb rfl h2, hc.1, noN_ne hc.2.1, hc.2.2, z⟩⟩
    · cases e
  · cases e
mutual
theorem toP_inj : ∀ (d e : D) (p : PyData), toP d = some p → toP e = some p → d = e
  | .non, e, p, h1, h2 => by
    simp only [toP, Option.some.injEq] at h1; subst h1
    cases e <;> simp [toP] at h2 <;> rfl
  | .bl b, e, p, h1, h2 => by
    simp only [toP, Option.some.injEq] at h1; subst h1
    cases e <;> simp [toP] at h2 <;> simp [h2]
  | .int b, e, p, h1, h2 => by
    simp only [toP, Option.some.injEq] at h1; subst h1
    cases e <;> simp [toP] at h2 <;> simp [h2]
  | .str b, e, p, h1, h2 => by
    simp only [toP, Option.some.injEq] at h1; subst h1
    cases e <;> simp [toP] at h2 <;> simp [h2]
  | .tup ds, e, p, h1, h2 => by
    simp only [toP, Option.map_eq_some_iff] at h1
    obtain ⟨ps, h3, rfl⟩ := h1
    cases e <;> simp [toP] at h2
    rw [toPs_inj ds _ ps h3 h2]
  | .lst ds, e, p, h1, h2 => by
    simp only [toP, Option.map_eq_some_iff] at h1
    obtain ⟨ps, h3, rfl⟩ := h1
    cases e <;> simp [toP] at h2
    rw [toPs_inj ds _ ps h3 h2]
  | .dct _, _, _, h1, _ => by simp [toP] at h1
  | .obj _ _, _, _, h1, _ => by simp [toP] at h1
  | .err _ _, _, _, h1, _ => by simp [toP] at h1
theorem toPs_inj : ∀ (ds es : List D) (ps : List PyData), toPs ds = some ps → toPs es = some ps → ds = es
  | [], es, ps, h1, h2 => by
    simp only [toPs, Option.some.injEq] at h1; subst h1
    cases es with
    | nil => rfl
    | cons e r =>
      simp only [toPs] at h2
      split at h2 <;> cases h2
  | d :: ds, es, ps, h1, h2 => by
    simp only [toPs] at h1
    split at h1
    · rename_i p q h3 h4
      cases h1
      cases es with
      | nil => cases h2
      | cons e r =>
        simp only [toPs] at h2
        split at h2
        · rename_i p' q' h5 h6
          cases h2
          rw [toP_inj d e p h3 h5, toPs_inj ds r q h4 h6]
        · cases h2
    · cases h1
end
theorem toPs_pp : ∀ {ds : List D} {ps : List PyData}, toPs ds = some ps → ps = ds.map pp ∧ ∀ d ∈ ds, toP d = some (pp d)
  | [], ps, h => by
    simp only [toPs, Option.some.injEq] at h; subst h
    exact ⟨rfl, fun d hd => by cases hd⟩
  | d :: ds, ps, h => by
    simp only [toPs] at h
    split at h
    · rename_i p q h3 h4
      cases h
      obtain ⟨e1, e2⟩ := toPs_pp h4
      have e3 : pp d = p := by unfold pp; rw [h3]; rfl
      refine ⟨by rw [List.map_cons, e3, e1], fun z hz => ?_⟩
      rcases List.mem_cons.mp hz with rfl | hz
      · rw [e3]; exact h3
      · exact e2 z hz
    · cases h
theorem depthAll_le : ∀ {ps : List PyData} {n : Nat}, (∀ p ∈ ps, p.depth ≤ n) → PyData.depthAll ps ≤ n
  | [], n, _ => by simp [PyData.depthAll]
  | p :: ps, n, h => by
    rw [PyData.depthAll]
    have := h p List.mem_cons_self
    have := depthAll_le (ps := ps) (n := n) fun q hq => h q (List.mem_cons_of_mem _ hq)
    omega
/-! ### the first of the least -/
def minQ (d : D) (ds : List D) : D := ds.foldl (fun a y => if dlt y a = true then y else a) d
theorem minQ_mem : ∀ (ds : List D) (d : D), minQ d ds ∈ d :: ds
  | [], d => List.mem_cons_self
  | e :: ds, d => by
    show minQ (if dlt e d = true then e else d) ds ∈ _
    have := minQ_mem ds (if dlt e d = true then e else d)
    rcases List.mem_cons.mp this with h | h
    · rw [h]
      split
      · simp
      · simp
    · exact List.mem_cons_of_mem _ (List.mem_cons_of_mem _ h)
theorem minQ_pp : ∀ (ds : List D) (d : D), pp (minQ d ds) = PySem.W.minD (pp d) (ds.map pp)
  | [], d => rfl
  | e :: ds, d => by
    show pp (minQ (if dlt e d = true then e else d) ds) = PySem.W.minD (if PySem.W.dataLt (pp e) (pp d) then pp e else pp d) (ds.map pp)
    rw [minQ_pp ds]
    unfold dlt
    split <;> rfl
def okQ (ds : List D) : Bool := ds.all fun d => (toP d).isSome && (noN (pp d) && (decide ((pp d).depth ≤ 60) && ds.all fun e => PySem.W.alike (pp d) (pp e)))
theorem okQ_toPs : ∀ {ds : List D}, (∀ d ∈ ds, (toP d).isSome = true) → toPs ds = some (ds.map pp)
  | [], _ => rfl
  | d :: ds, h => by
    have h1 := h d List.mem_cons_self
    have h2 := okQ_toPs (ds := ds) fun e he => h e (List.mem_cons_of_mem _ he)
    obtain ⟨p, hp⟩ := Option.isSome_iff_exists.mp h1
    simp only [toPs, hp, h2, List.map_cons]
    have : pp d = p := by unfold pp; rw [hp]; rfl
    rw [this]
structure OkQ (ds : List D) : Prop where
  ps : toPs ds = some (ds.map pp)
  nn : ∀ d ∈ ds, pp d ≠ .none
  dp : ∀ d ∈ ds, (pp d).depth ≤ 60
  al : ∀ d ∈ ds, ∀ e ∈ ds, PySem.W.alike (pp d) (pp e) = true
theorem okQ_ok {ds : List D} (h : okQ ds = true) : OkQ ds := by
  unfold okQ at h
  rw [List.all_eq_true] at h
  have h' : ∀ d ∈ ds, (toP d).isSome = true ∧ noN (pp d) = true ∧ (pp d).depth ≤ 60 ∧ ∀ e ∈ ds, PySem.W.alike (pp d) (pp e) = true := fun d hd => by
    have := h d hd
    simp only [Bool.and_eq_true, decide_eq_true_eq, List.all_eq_true] at this
    exact this
  exact ⟨okQ_toPs fun d hd => (h' d hd).1, fun d hd => noN_ne (h' d hd).2.1, fun d hd => (h' d hd).2.2.1, fun d hd e he => (h' d hd).2.2.2 e he⟩
theorem okQ_of {ds : List D} (h1 : ∀ d ∈ ds, (toP d).isSome = true) (h2 : ∀ d ∈ ds, noN (pp d) = true) (h3 : ∀ d ∈ ds, (pp d).depth ≤ 60) (h4 : ∀ d ∈ ds, ∀ e ∈ ds, PySem.W.alike (pp d) (pp e) = true) : okQ ds = true := by
  unfold okQ
  rw [List.all_eq_true]
  intro d hd
  simp only [Bool.and_eq_true, decide_eq_true_eq, List.all_eq_true]
  exact ⟨h1 d hd, h2 d hd, h3 d hd, fun e he => h4 d hd e he⟩
def oMinQ : List D → Option D
  | [.lst (d :: ds)] => if okQ (d :: ds) = true then some (minQ d ds) else none
  | _ => none
def rMinD (K : PySem.W.Frag) : List V → Hp → VK → Prop := fun vs H Q => ∃ (a : Addr) (xs : List V) (p : PyData) (ps : List PyData), vs = [V.ref a] ∧ SqL K H a xs ∧ L2.DpAll K H xs (p :: ps) ∧ PySem.W.AlikeAll (p :: ps) ∧ PyData.depthAll (p :: ps) ≤ 60 ∧
  ∀ (i : Nat) x, xs[i]? = some x → (p :: ps)[i]? = some (PySem.W.minD p ps) → Q x H
theorem minD_mem : ∀ (ps : List PyData) (p : PyData), PySem.W.minD p ps ∈ p :: ps
  | [], p => List.mem_cons_self
  | q :: ps, p => by
    show PySem.W.minD (if PySem.W.dataLt q p then q else p) ps ∈ _
    have := minD_mem ps (if PySem.W.dataLt q p then q else p)
    rcases List.mem_cons.mp this with h | h
    · rw [h]
      split
      · simp
      · simp
    · exact List.mem_cons_of_mem _ (List.mem_cons_of_mem _ h)
theorem readsAll_ix {h : Heap} : ∀ {us : List Value} {ps : List PyData} {as : List Addr}, ReadsAll h us ps as → ∀ (i : Nat) u p, us[i]? = some u → ps[i]? = some p → ∃ bs, Reads h u p bs
  | _, _, _, .nil, i, u, p, e, _ => by cases e
  | _, _, _, .cons r rs, 0, u, p, e1, e2 => by cases e1; cases e2; exact ⟨_, r⟩
  | _, _, _, .cons r rs, i + 1, u, p, e1, e2 => readsAll_ix rs i u p (by simpa using e1) (by simpa using e2)
theorem vals_ix : ∀ {xs : List V} {us : List Value}, Vals xs us → ∀ (i : Nat) u, us[i]? = some u → ∃ x, xs[i]? = some x ∧ RelV x u
  | _, _, .nil, i, u, e => by cases e
  | _, _, .cons r rs, 0, u, e => by cases e; exact ⟨_, rfl, r⟩
  | _, _, .cons r rs, i + 1, u, e => by
    obtain ⟨x, h1, h2⟩ := vals_ix rs i u (by simpa using e)
    exact ⟨x, by simpa using h1, h2⟩
theorem dpAll_len {K : PySem.W.Frag} {H : Hp} : ∀ {xs : List V} {ps : List PyData}, L2.DpAll K H xs ps → xs.length = ps.length
  | _, _, .nil => rfl
  | _, _, .cons _ h => by simp [dpAll_len h]
section
variable {X : Cx}
theorem cr_minD (hc : X.calm = true) (hu : X.A.units + 64 < cLine) : CallR X (.builtin "min") (rMinD X.K) := by
  intro pins s σ H vs us Q I r h
  obtain ⟨a, xs, p, ps, rfl, hs, hd, hal, hz, q⟩ := h
  obtain ⟨its, rv, hl, _⟩ := I.list hs
  obtain ⟨u, rfl, ru⟩ := vals1 r
  obtain rfl : u = Value.ref a := ru
  obtain ⟨as, hr⟩ := L2.Dp.readsAll I (p :: ps) xs its hd rv
  refine PySem.W.min_list_data (I.ok.hd hc) hl.isList (as := as) hr hal (by omega) fun i v h' tk bs hv hrd hk => ?_
  have hv' : its[i]? = some v := by simpa using hv
  obtain ⟨x, hx, rx⟩ := vals_ix rv i v hv'
  have hlen := dpAll_len hd
  have hi : i < (p :: ps).length := by rw [← hlen]; exact (List.getElem?_eq_some_iff.mp hx).1
  obtain ⟨bs', hr'⟩ := readsAll_ix hr i v _ hv' (List.getElem?_eq_getElem hi)
  have e := PySem.W.alike_unique _ _ v bs' bs (hal.1 _ (List.getElem_mem hi) _ (minD_mem ps p)) (PySem.W.reads_keeps hk hr') hrd
  exact ⟨x, H, I.kept hk, rx, q i x hx (by rw [List.getElem?_eq_getElem hi, e])⟩
end
section
variable {X : Cx} {C : Ctx} {wx : WX} {e : Expr} {p pos : Pos} {ms : Mo (List D)} {g : Rg}
theorem ve_minQ (hu : X.A.units + 64 < cLine) (hm : X.mg "min" = none) (ha : PA X [e] (WA C wx g ms)) (hg : Gl X "min" := by rfl)
    (hs : starEach [e] X.env = (false, eval e X.env) :: starEach [] X.env := by rfl) (hpl : (backTo pos (starEach [] X.env)).any (·.1) = false := by rfl) (hc : X.calm = true := by rfl) (hK : X.K = C.K := by rfl) : PE X (.Call (.Name "min" p) [e] [] pos) (W C wx g 0 (mCB ms oMinQ)) := by
  refine (pe_callB (cr_minD hc hu) hg hm PyProof.Rows.boot_min ha (by decide) (by decide) hs hpl).wk fun σ H Q w => ?_
  obtain ⟨F, B, n, ds, S, h⟩ := w
  refine ⟨F, B, n, ds, S, (h.bind fun F1 H1 F2 H2 v d G r => r.tr G).mono fun xs H1 ⟨F1, n1, da, G1, S1, r1, h1⟩ => ?_⟩
  obtain ⟨d, e, q⟩ := WL.same (A := fun _ => False) S1 h1
  unfold oMinQ at e
  split at e
  · rename_i d0 l
    split at e
    · rename_i hok
      cases e
      have ok := okQ_ok hok
      obtain ⟨v, rfl, r⟩ := r1.one
      cases r with
      | @lst _ a vs _ hh l0 c =>
        rw [hK]
        refine ⟨a, vs, pp d0, l.map pp, rfl, sqL_mono hh (rg_same S1.fh), dpAll_of (by rw [l0]; simp) (fun i v p hv hp => ?_), ⟨fun x hx y hy => ?_, fun x hx => ?_⟩, depthAll_le fun x hx => ?_, fun i x hx hp => ?_⟩
        · have hi : i < (d0 :: l).length := by rw [← l0]; exact (List.getElem?_eq_some_iff.mp hv).1
          have e1 := (toPs_pp ok.ps).2 (d0 :: l)[i] (List.getElem_mem hi)
          have hp' : ((d0 :: l).map pp)[i]? = some p := hp
          rw [List.getElem?_map, List.getElem?_eq_getElem hi, Option.map_some] at hp'
          cases hp'
          exact dp_of (rg_same S1.fh) (c i v _ hv (List.getElem?_eq_getElem hi)) rfl e1
        · obtain ⟨x', hx', rfl⟩ := List.mem_map.mp (show x ∈ (d0 :: l).map pp from hx)
          obtain ⟨y', hy', rfl⟩ := List.mem_map.mp (show y ∈ (d0 :: l).map pp from hy)
          exact ok.al _ hx' _ hy'
        · obtain ⟨x', hx', rfl⟩ := List.mem_map.mp (show x ∈ (d0 :: l).map pp from hx)
          exact ok.nn _ hx'
        · obtain ⟨x', hx', rfl⟩ := List.mem_map.mp (show x ∈ (d0 :: l).map pp from hx)
          exact ok.dp _ hx'
        · have hi : i < (d0 :: l).length := by rw [← l0]; exact (List.getElem?_eq_some_iff.mp hx).1
          have hp' : ((d0 :: l).map pp)[i]? = some (PySem.W.minD (pp d0) (l.map pp)) := hp
          rw [List.getElem?_map, List.getElem?_eq_getElem hi, Option.map_some, Option.some.injEq] at hp'
          have e1 := (toPs_pp ok.ps).2 (d0 :: l)[i] (List.getElem_mem hi)
          have e2 := (toPs_pp ok.ps).2 (minQ d0 l) (minQ_mem l d0)
          have e3 : (d0 :: l)[i] = minQ d0 l := toP_inj _ _ _ e1 (by rw [e2, minQ_pp, hp'])
          exact q x (c i x _ hx (by rw [List.getElem?_eq_getElem hi, e3]))
    · cases e
  · cases e
end
/-! ### sorted -/
def tup1 : D → Bool
  | .tup (_ :: _) => true
  | _ => false
def leQ (x y : D) : Bool := !dlt y x
def oSortQ : List D → Option D
  | [.lst ds] => if (okQ ds && (flats ds && (ds.all tup1 && decide (ds.length ≤ 16777216)))) = true then some (.lst (ds.mergeSort leQ)) else none
  | _ => none
def rSortD (K : PySem.W.Frag) : List V → Hp → VK → Prop := fun vs H Q => ∃ (a : Addr) (bs : List (V × D)), vs = [V.ref a] ∧ SqL K H a (bs.map (·.1)) ∧ (∀ b ∈ bs, L2.Dp K H b.1 (pp b.2)) ∧ PySem.W.AllAlike (bs.map fun b => pp b.2) ∧ PySem.W.Sortable (bs.map fun b => pp b.2) ∧ bs.length ≤ sizeLine ∧ (∀ b ∈ bs, (pp b.2).depth ≤ 60) ∧
  ∀ q, H q = none → Q (.ref q) (upd H q (.lst ((bs.mergeSort fun x y => leQ x.2 y.2).map (·.1))))
section
variable {X : Cx}
theorem each_of {α : Type} {R : Value → α → Prop} : ∀ {us : List Value} {bs : List α}, us.length = bs.length → (∀ (i : Nat) u b, us[i]? = some u → bs[i]? = some b → R u b) → PySem.W.EachIs R us bs
  | [], [], _, _ => .nil
  | [], _ :: _, h, _ => by cases h
  | _ :: _, [], h, _ => by cases h
  | u :: us, b :: bs, h, c => .cons (c 0 u b rfl rfl) (each_of (by simpa using h) fun i u b a d => c (i + 1) u b (by simpa using a) (by simpa using d))
theorem each_vals : ∀ {us : List Value} {bs : List (V × D)}, PySem.W.EachIs (fun u (b : V × D) => RelV b.1 u) us bs → Vals (bs.map (·.1)) us
  | _, _, .nil => .nil
  | _, _, .cons h t => .cons h (each_vals t)
theorem cr_sortD (hu : X.A.units + 64 < cLine) : CallR X (.builtin "sorted") (rSortD X.K) := by
  intro pins s σ H vs us Q I r h
  obtain ⟨a, bs, rfl, hs, hd, hal, hk, hz, hdp, q⟩ := h
  obtain ⟨its, rv, hl, _⟩ := I.list hs
  obtain ⟨u, rfl, ru⟩ := vals1 r
  obtain rfl : u = Value.ref a := ru
  have hlen : its.length = bs.length := by rw [← rv.length, List.length_map]
  have rel : ∀ (i : Nat) u b, its[i]? = some u → bs[i]? = some b → RelV b.1 u := fun i u b h1 h2 => by
    obtain ⟨x, h3, h4⟩ := vals_ix rv i u h1
    rw [List.getElem?_map, h2] at h3
    cases h3
    exact h4
  refine PySem.W.sorted_data (β := V × D) (enc := fun b => pp b.2) (R := fun u b => RelV b.1 u) hl.isList (each_of hlen rel) (each_of hlen fun i u b h1 h2 => ?_) hal hk hz (fun b hb => by have := hdp b hb; omega) fun out ho e => ?_
  · exact L2.Dp.reads I _ b.1 u (hd b (List.mem_of_getElem? h2)) (rel i u b h1 h2)
  · have e' : Vals ((bs.mergeSort fun x y => leQ x.2 y.2).map (·.1)) out := each_vals e
    obtain ⟨n, hn⟩ := sortedAll_at s.heap its out.toArray
    have hz' : ((bs.mergeSort fun x y => leQ x.2 y.2).map (·.1)).length ≤ sizeLine := by rw [List.length_map, List.length_mergeSort]; exact hz
    exact ⟨.ref (s.heap.objs.size + 1), upd H (s.heap.objs.size + 1) (.lst ((bs.mergeSort fun x y => leQ x.2 y.2).map (·.1))), I.laid (t' := s.toks) (fun b o e => sortedAll_old e) (Nat.le_succ _) ⟨hz', out, n, e', hn⟩, rfl, q _ (I.hok.fresh (Nat.le_succ _))⟩
end
theorem flats_mem : ∀ {ds : List D} {d : D}, flats ds = true → d ∈ ds → flat d = true
  | e :: ds, d, h, hd => by
    simp only [flats, Bool.and_eq_true] at h
    rcases List.mem_cons.mp hd with rfl | hd
    · exact h.1
    · exact flats_mem h.2 hd
theorem tup1_pp {d : D} (h : tup1 d = true) (hp : (toP d).isSome = true) : ∃ x r, pp d = .tuple (x :: r) := by
  obtain ⟨p, hp⟩ := Option.isSome_iff_exists.mp hp
  unfold pp
  rw [hp]
  cases d with
  | tup ds =>
    cases ds with
    | nil => cases h
    | cons y ds =>
      simp only [toP, Option.map_eq_some_iff] at hp
      obtain ⟨ps, h1, rfl⟩ := hp
      simp only [toPs] at h1
      split at h1
      · cases h1; exact ⟨_, _, rfl⟩
      · cases h1
  | _ => cases h
section
variable {X : Cx} {C : Ctx} {wx : WX} {e : Expr} {p pos : Pos} {ms : Mo (List D)} {g : Rg}
theorem ve_sortQ (hu : X.A.units + 64 < cLine) (hm : X.mg "sorted" = none) (ha : PA X [e] (WA C wx g ms)) (hg : Gl X "sorted" := by rfl)
    (hs : starEach [e] X.env = (false, eval e X.env) :: starEach [] X.env := by rfl) (hpl : (backTo pos (starEach [] X.env)).any (·.1) = false := by rfl) (hK : X.K = C.K := by rfl) : PE X (.Call (.Name "sorted" p) [e] [] pos) (W C wx .fz 1 (mCB ms oSortQ)) := by
  refine (pe_callB (cr_sortD hu) hg hm PyProof.Rows.boot_sorted ha (by decide) (by decide) hs hpl).wk fun σ H Q w => ?_
  obtain ⟨F, B, n, ds, S, h⟩ := w
  refine ⟨F, B, n, ds, S, (h.bind fun F1 H1 F2 H2 v d G r => r.tr G).mono fun xs H1 ⟨F1, n1, da, G1, S1, r1, h1⟩ => ?_⟩
  obtain ⟨d, e, q⟩ := h1.retE
  unfold oSortQ at e
  split at e
  · rename_i l
    split at e
    · rename_i hok
      cases e
      simp only [Bool.and_eq_true, decide_eq_true_eq, List.all_eq_true] at hok
      obtain ⟨hok, hfl, htp, hln⟩ := hok
      have ok := okQ_ok hok
      obtain ⟨v, rfl, r⟩ := r1.one
      cases r with
      | @lst _ a vs _ hh l0 c =>
        rw [hK]
        have z1 : (vs.zip l).map (·.1) = vs := List.map_fst_zip (by omega)
        have z2 : (vs.zip l).map (·.2) = l := List.map_snd_zip (by omega)
        have zm : ∀ b ∈ vs.zip l, ∃ i, vs[i]? = some b.1 ∧ l[i]? = some b.2 := fun b hb => by
          obtain ⟨i, hi⟩ := List.getElem?_of_mem hb
          rw [List.getElem?_zip_eq_some] at hi
          exact ⟨i, hi⟩
        have z3 : (vs.zip l).map (fun b => pp b.2) = l.map pp := by
          have := congrArg (List.map pp) z2
          rw [List.map_map] at this
          exact this
        have hms : ((vs.zip l).mergeSort fun x y => leQ x.2 y.2).map (·.2) = l.mergeSort leQ := by
          rw [List.map_mergeSort (s := leQ) (f := fun x : V × D => x.2) fun a _ b _ => rfl, z2]
        refine ⟨a, vs.zip l, rfl, by rw [z1]; exact sqL_mono hh (rg_same S1.fh), fun b hb => ?_, fun x hx y hy => ?_, .inl fun x hx => ?_, by rw [List.length_zip, sizeLine_eq]; omega, fun b hb => ?_, fun p hp => ?_⟩
        · obtain ⟨i, h1, h2⟩ := zm b hb
          exact dp_of (rg_same S1.fh) (c i _ _ h1 h2) rfl ((toPs_pp ok.ps).2 _ (List.mem_of_getElem? h2))
        · rw [z3] at hx hy
          obtain ⟨x', hx', rfl⟩ := List.mem_map.mp hx
          obtain ⟨y', hy', rfl⟩ := List.mem_map.mp hy
          exact ok.al _ hx' _ hy'
        · rw [z3] at hx
          obtain ⟨x', hx', rfl⟩ := List.mem_map.mp hx
          exact tup1_pp (htp x' hx') (by rw [(toPs_pp ok.ps).2 _ hx']; rfl)
        · obtain ⟨i, _, h2⟩ := zm b hb
          exact ok.dp _ (List.mem_of_getElem? h2)
        · obtain ⟨G2, S2⟩ := S1.newO (o := .lst (((vs.zip l).mergeSort fun x y => leQ x.2 y.2).map (·.1))) hp
          refine q (.ref p) F1 _ G2 S2 ⟨fun a => a = p, .lstO (fun _ _ => False) upd_same rfl (by rw [← hms, List.length_map, List.length_map]) (fun i y d hy hd => ?_) (fun _ _ h => h.elim) (fun _ _ _ h => h.elim), Fr.one S1.fh hp rfl⟩
          rw [← hms, List.getElem?_map] at hd
          rw [List.getElem?_map] at hy
          cases hb : ((vs.zip l).mergeSort fun x y => leQ x.2 y.2)[i]? with
          | none => rw [hb] at hd; cases hd
          | some b =>
            rw [hb] at hd hy
            cases hd; cases hy
            have hbm : b ∈ vs.zip l := (List.mergeSort_perm _ _).mem_iff.mp (List.mem_of_getElem? hb)
            obtain ⟨j, h1, h2⟩ := zm b hbm
            have r3 : Rp C.K F1 H1 0 b.1 b.2 (fun _ => False) := (c j _ _ h1 h2).flat_any (flats_mem hfl (List.mem_of_getElem? h2)) _ _ _
            exact Rp.go0 (g := .fz) r3 G2
    · cases e
  · cases e
end
/-! ### rows of numbers -/
def iT (l : List Int) : D := .tup (l.map D.int)
theorem toPs_ints : ∀ l : List Int, toPs (l.map D.int) = some (l.map PyData.int)
  | [] => rfl
  | x :: l => by
    show toPs (D.int x :: l.map D.int) = _
    simp only [toPs, toP, toPs_ints l, List.map_cons]
theorem toP_iT (l : List Int) : toP (iT l) = some (.tuple (l.map .int)) := by
  unfold iT
  simp only [toP, toPs_ints, Option.map_some]
theorem pp_iT (l : List Int) : pp (iT l) = .tuple (l.map .int) := by unfold pp; rw [toP_iT]; rfl
theorem dlt_iT (l m : List Int) : dlt (iT l) (iT m) = decide (l < m) := by
  unfold dlt
  rw [pp_iT, pp_iT, PySem.W.dataLt_tuple]
  exact PySem.W.dataLt_ints l m
theorem okQ_iT (ls : List (List Int)) : okQ (ls.map iT) = true := by
  have key : ∀ d ∈ ls.map iT, ∃ l, d = iT l := fun d hd => by
    obtain ⟨l, _, rfl⟩ := List.mem_map.mp hd
    exact ⟨l, rfl⟩
  refine okQ_of (fun d hd => ?_) (fun d hd => ?_) (fun d hd => ?_) fun d hd e he => ?_
  · obtain ⟨l, rfl⟩ := key d hd; rw [toP_iT]; rfl
  · obtain ⟨l, rfl⟩ := key d hd; rw [pp_iT]; rfl
  · obtain ⟨l, rfl⟩ := key d hd
    rw [pp_iT]
    show (PyData.tuple _).depth ≤ 60
    rw [PyData.depth, PySem.W.depth_ints]; omega
  · obtain ⟨l, rfl⟩ := key d hd
    obtain ⟨m, rfl⟩ := key e he
    rw [pp_iT, pp_iT]
    show PySem.W.alike (.tuple _) (.tuple _) = true
    rw [PySem.W.alike]
    exact PySem.W.alike_ints l m
def minI (l : List Int) (ls : List (List Int)) : List Int := ls.foldl (fun a y => if y < a then y else a) l
theorem minQ_iT : ∀ (ls : List (List Int)) (l : List Int), minQ (iT l) (ls.map iT) = iT (minI l ls)
  | [], l => rfl
  | m :: ls, l => by
    show minQ (if dlt (iT m) (iT l) = true then iT m else iT l) (ls.map iT) = iT (minI (if m < l then m else l) ls)
    rw [dlt_iT]
    by_cases h : m < l
    · rw [if_pos (by simpa using h), if_pos h, minQ_iT]
    · rw [if_neg (by simpa using h), if_neg h, minQ_iT]
theorem ov_minQ (l : List Int) (ls : List (List Int)) : oMinQ [.lst (iT l :: ls.map iT)] = some (iT (minI l ls)) := by
  show (if okQ ((l :: ls).map iT) = true then some (minQ (iT l) (ls.map iT)) else none) = _
  rw [if_pos (okQ_iT _), minQ_iT]
theorem flats_iT : ∀ l : List Int, flats (l.map D.int) = true
  | [] => rfl
  | x :: l => by
    show flats (D.int x :: l.map D.int) = true
    simp only [flats, flat, flats_iT l, Bool.and_self]
theorem flats_all : ∀ {ds : List D}, (∀ d ∈ ds, flat d = true) → flats ds = true
  | [], _ => rfl
  | d :: ds, h => by
    simp only [flats, h d List.mem_cons_self, flats_all fun e he => h e (List.mem_cons_of_mem _ he), Bool.and_self]
def leI (l m : List Int) : Bool := decide (l ≤ m)
theorem ov_sortQ (ls : List (List Int)) (h : ∀ l ∈ ls, l ≠ []) (hz : ls.length ≤ 16777216) : oSortQ [.lst (ls.map iT)] = some (.lst ((ls.mergeSort leI).map iT)) := by
  have h1 : flats (ls.map iT) = true := flats_all fun d hd => by
    obtain ⟨l, _, rfl⟩ := List.mem_map.mp hd
    show flats (l.map D.int) = true
    exact flats_iT l
  have h2 : (ls.map iT).all tup1 = true := List.all_eq_true.mpr fun d hd => by
    obtain ⟨l, hl, rfl⟩ := List.mem_map.mp hd
    cases l with
    | nil => exact absurd rfl (h _ hl)
    | cons => rfl
  show (if (okQ (ls.map iT) && (flats (ls.map iT) && ((ls.map iT).all tup1 && decide ((ls.map iT).length ≤ 16777216)))) = true then _ else none) = _
  rw [okQ_iT, h1, h2, if_pos (by simpa using hz), List.map_mergeSort (s := leQ) (f := iT) fun a _ b _ => ?_]
  unfold leQ leI
  rw [dlt_iT]
  by_cases hab : b < a
  · have : ¬ a ≤ b := fun q => List.not_lt.mpr q hab
    simp [hab, this]
  · have : a ≤ b := List.not_lt.mp hab
    simp [hab, this]
end GW

namespace GW
open PySem L2 PyProof.Rows
/-! ### min with a default -/
theorem fmin_le : ∀ (l : List Int) (a : Int), l.foldl min a ≤ a ∧ (∀ y ∈ l, l.foldl min a ≤ y) ∧ l.foldl min a ∈ a :: l
  | [], a => ⟨Int.le_refl _, fun y hy => (by cases hy), List.mem_cons_self⟩
  | b :: l, a => by
    obtain ⟨h1, h2, h3⟩ := fmin_le l (min a b)
    rw [List.foldl_cons]
    refine ⟨by omega, fun y hy => ?_, ?_⟩
    · rcases List.mem_cons.mp hy with rfl | hy
      · omega
      · exact h2 y hy
    · rcases List.mem_cons.mp h3 with h3 | h3
      · rw [h3]
        rcases Int.le_total a b with h | h
        · rw [Int.min_eq_left h]; simp
        · rw [Int.min_eq_right h]; simp
      · exact List.mem_cons_of_mem _ (List.mem_cons_of_mem _ h3)
theorem minL_fold (l : List Int) (a : Int) : minL (a :: l) = some (l.foldl min a) := by
  obtain ⟨h1, h2, h3⟩ := fmin_le l a
  exact minL_is h3 fun y hy => by
    rcases List.mem_cons.mp hy with rfl | hy
    · exact h1
    · exact h2 y hy
def oMinF (c : Int) : List D → Option D
  | [.lst ds] => (intsD ds).map fun is => .int ((minL is).getD c)
  | _ => none
def rMinF (K : PySem.W.Frag) (c : Int) : List V → Hp → VK → Prop := fun vs H Q => ∃ (a : Addr) (is : List Int), vs = [V.ref a] ∧ SqL K H a (is.map V.int) ∧ Q (.int ((minL is).getD c)) H
theorem cs_minF {K : PySem.W.Frag} {c : Int} : CalS K (rMinF K c) (oMinF c) := by
  intro G H vs ds d hs r0 e
  unfold oMinF at e
  split at e
  · rename_i l
    obtain ⟨v, rfl, r⟩ := r0.one
    cases hb : intsD l with
    | none => rw [hb] at e; cases e
    | some bs =>
      rw [hb] at e
      cases e
      cases r with
      | lst h l c =>
        have := ints_of (RpL.of l c) hb
        subst this
        exact ⟨_, rfl, fun Q q => ⟨_, bs, rfl, sqL_mono h hs, q⟩⟩
  · cases e
theorem depth_ints : ∀ is : List Int, PyData.depthAll (is.map PyData.int) ≤ 60 := fun is => depthAll_le fun x hx => by
  obtain ⟨i, _, rfl⟩ := List.mem_map.mp hx
  show PyData.depth (.int i) ≤ 60
  simp [PyData.depth]
section
variable {X : Cx} {C : Ctx} {wx : WX} {g : Rg} {k : Nat} {e : Expr} {p cp kpos pos : Pos} {ms : Mo (List D)} {t : TA} {c : Int} {j : Nat}
theorem cr_minF (hc : X.calm = true) (hu : X.A.units + 64 < cLine) (tk : Nat) : ∀ (pins : List (Addr × Obj)) (s : Shared) (σ : L2.St) (H : Hp) (vs : List V) (us : List Value) (Q : VK), Inv X pins σ H s → Vals vs us → rMinF X.K c vs H Q → wpAny (model X.prog X.w) X.A (call (.builtin "min") us [(Str.ofString "default", .int c tk)]) (EP X pins σ Q) X.xe s := by
  intro pins s σ H vs us Q I r h
  obtain ⟨a, is, rfl, hs, q⟩ := h
  obtain ⟨its, rv, hl, _⟩ := I.list hs
  obtain ⟨u, rfl, ru⟩ := vals1 r
  obtain rfl : u = Value.ref a := ru
  have hd : L2.DpAll X.K H (is.map V.int) (is.map PyData.int) := dpAll_of (by simp) fun i v p hv hp => by
    rw [List.getElem?_map] at hv hp
    cases hi : is[i]? with
    | none => rw [hi] at hv; cases hv
    | some z => rw [hi] at hv hp; cases hv; cases hp; exact .int z
  obtain ⟨as, hr⟩ := L2.Dp.readsAll I _ _ its hd rv
  refine PySem.W.min_list_default (I.ok.hd hc) hl.isList (as := as) hr ⟨fun x hx y hy => ?_, fun x hx => ?_⟩ (by have := depth_ints is; omega) (fun h0 h' tk' hk => ?_) fun y ys i v h' tk' bs he hv hrd hk => ?_
  · obtain ⟨x', _, rfl⟩ := List.mem_map.mp hx
    obtain ⟨y', _, rfl⟩ := List.mem_map.mp hy
    rfl
  · obtain ⟨x', _, rfl⟩ := List.mem_map.mp hx
    exact fun z => by cases z
  · have : is = [] := by simpa using h0
    subst this
    exact ⟨.int c, H, I.kept hk, ⟨_, rfl⟩, q⟩
  · cases is with
    | nil => cases he
    | cons z zs =>
      rw [List.map_cons] at he
      injection he with e1 e2
      subst e1 e2
      rw [PySem.W.minD_ints] at hrd
      rw [minL_fold] at q
      cases hrd with
      | int _ t => exact ⟨.int (zs.foldl min z), H, I.kept hk, ⟨_, rfl⟩, q⟩
theorem pe_minF (hm : X.mg "min" = none) (ha : PA X [e] t) (hu : X.A.units + 64 < cLine) (hg : Gl X "min" := by rfl) (hc : X.calm = true := by rfl)
    (hs : backTo pos (starEach [e] X.env) = (false, eval e X.env) :: backTo pos (starEach [] X.env) := by rfl) (hpl : (backTo pos (starEach [e] X.env)).any (·.1) = false := by rfl) : PE X (.Call (.Name "min" p) [e] [⟨some "default", .Constant (.int c) j cp, kpos⟩] pos) (tCB (rMinF X.K c) t) := by
  refine ⟨fun pins s σ H Q I h => ?_⟩
  refine wpAny_Call_Name_kw (ld_blt I hg hm PyProof.Rows.boot_min ?_ (by decide) (by decide))
  refine PyProof.Rows.callWith_kw (thn (ha.run pos pins s σ H _ I h) fun us s1 ⟨vs, H1, I1, r1, q1⟩ => ?_) hs hpl (by rfl) (by rfl)
  refine thn ((pk_cons (X := X) (nm := some "default") (kpos := kpos) (pe_int (i := c) (j := j) (pos := cp)) pk_nil).run pos pins s1 σ H1 (fun zs H2 => zs = [V.int c] ∧ H2 = H1) I1 ⟨rfl, rfl⟩) fun ws s2 ⟨zs, H2, I2, r2, q2⟩ => ?_
  obtain ⟨rfl, rfl⟩ := q2
  obtain ⟨u, rfl, tk, rfl⟩ := vals1 r2
  exact cr_minF hc hu tk pins s2 σ _ vs us Q I2 r1 q1
theorem ve_minF (hu : X.A.units + 64 < cLine) (hm : X.mg "min" = none) (ha : PA X [e] (WA C wx .bo ms)) (hg : Gl X "min" := by rfl)
    (hs : backTo pos (starEach [e] X.env) = (false, eval e X.env) :: backTo pos (starEach [] X.env) := by rfl) (hpl : (backTo pos (starEach [e] X.env)).any (·.1) = false := by rfl) (hc : X.calm = true := by rfl) (hK : X.K = C.K := by rfl) : PE X (.Call (.Name "min" p) [e] [⟨some "default", .Constant (.int c) j cp, kpos⟩] pos) (W C wx g k (mCB ms (oMinF c))) :=
  (pe_minF hm ha hu hg hc hs hpl).wk fun σ H Q w => tCB_of (by rw [hK]; exact cs_minF) w
end
@[simp] theorem ov_minF {c : Int} {is : List Int} : oMinF c [.lst (is.map D.int)] = some (.int ((minL is).getD c)) := by
  have h : ∀ is : List Int, intsD (is.map D.int) = some is := fun is => by
    induction is with
    | nil => rfl
    | cons a r ih => simp [intsD, ih]
  show Option.map _ (intsD _) = _
  rw [h]; rfl
end GW

namespace GW
open PySem L2 PyProof.Rows
/-! ### isinstance of an own class -/
def insB (K : PySem.W.Frag) (C : Addr) : Bool := decide (PySem.W.findIn K (.ref C) "__class__" = some (some (.builtin "object.__class__"))) && (decide (PySem.W.specialIn K (.builtin "object.__class__") "__get__" = some (some (.builtin "getset_descriptor.__get__"))) && (decide (PySem.W.takesIn K (.builtin "object.__class__") = some true) && (decide (PySem.W.mroIn K C (.type "object") = some true) && decide (PySem.W.kitOne K (.ref C) (.ref C) = some true))))
theorem insB_ok {K : PySem.W.Frag} {C : Addr} (c : Cls K C) (h : insB K C = true) : C8.InsC K C := by
  unfold insB at h
  simp only [Bool.and_eq_true, decide_eq_true_eq] at h
  exact ⟨c, h.1, h.2.1, h.2.2.1, h.2.2.2.1, h.2.2.2.2⟩
def oIsC (C0 : Addr) : D → Option D
  | .obj C' _ => if C' = C0 then some (.bl true) else none
  | _ => none
section
variable {X : Cx} {C : Ctx} {wx : WX} {g : Rg} {k : Nat} {e : Expr} {p p2 pos : Pos} {m : M} {C0 : Addr}
theorem ve_isC {y : Str} (c : C8.InsC C.K C0) (hm : X.mg "isinstance" = none) (hy : X.mg y = some (.ref C0)) (ha : PE X e (W C wx .bo 0 m)) (hgT : Gl X y := by rfl) (hdT : (y == ("__debug__" : Str)) = false := by decide) (hg : Gl X "isinstance" := by rfl)
    (hs : starEach [e, .Name y p2] X.env = (false, eval e X.env) :: starEach [.Name y p2] X.env := by rfl) (hs2 : starEach [.Name y p2] X.env = (false, eval (.Name y p2) X.env) :: starEach [] X.env := by rfl) (hpl : (backTo pos (starEach [.Name y p2] X.env)).any (·.1) = false := by rfl) (hK : X.K = C.K := by rfl) :
    PE X (.Call (.Name "isinstance" p) [e, .Name y p2] [] pos) (W C wx g k (m1 m (oIsC C0))) := by
  refine (pe_callB (C8.call_isC (C := C0) (by rw [hK]; exact c)) hg hm PyProof.Rows.boot_isinstance (pa_cons ha (pa_cons (pe_glob (v := .ref C0) hgT hy rfl hdT) pa_nil hs2) hs) (by decide) (by decide) hs hpl).wk fun σ H Q w => ?_
  obtain ⟨F, B, n, ds, S, h⟩ := w
  refine ⟨F, B, n, ds, S, (h.bind fun F1 H1 F2 H2 v d G r => r.tr G).mono fun x H1 ⟨F1, n1, d, G1, S1, ⟨A1, r1, f1⟩, h1⟩ => ?_⟩
  obtain ⟨d2, e2, q⟩ := h1.sc S1
  cases d with
  | obj C' fds =>
    unfold oIsC at e2
    dsimp only at e2
    split at e2
    · rename_i hc
      subst hc
      cases e2
      cases r1 with
      | obj hh l c => exact ⟨_, _, _, rfl, rg_same S1.fh _ _ hh, q _ rfl⟩
    · cases e2
  | _ => cases e2
end
@[simp] theorem ov_isC {C0 : Addr} {fs : List (Str × D)} : oIsC C0 (.obj C0 fs) = some (.bl true) := if_pos rfl
end GW

namespace GW
open PySem L2 PyProof.Rows
/-! ### list.insert -/
def rInsert : V → List V → Hp → VK → Prop := fun x vs H Q => ∃ (l : Addr) (xs : List V) (i : Int) (y : V), x = .ref l ∧ vs = [.int i, y] ∧ H l = some (.lst xs) ∧ xs.length < sizeLine ∧ 0 ≤ i ∧ i < 2 ^ 63 ∧
    Q .non (upd H l (.lst (xs.take i.toNat ++ [y] ++ xs.drop i.toNat)))
def fInsert : List D → List D → Option (List D)
  | as, [.int i, d] => if as.length < 16777216 ∧ 0 ≤ i ∧ i < 2 ^ 63 then some (as.take i.toNat ++ [d] ++ as.drop i.toNat) else none
  | _, _ => none
theorem RpL.take {K : PySem.W.Frag} {G H : Hp} {vs : List V} {ds : List D} (a : RpL K G H vs ds) (n : Nat) : RpL K G H (vs.take n) (ds.take n) := by
  refine ⟨by rw [List.length_take, List.length_take, a.1], fun i v d h1 h2 => ?_⟩
  rw [List.getElem?_take] at h1 h2
  by_cases h : i < n
  · rw [if_pos h] at h1 h2
    exact a.2 i v d h1 h2
  · rw [if_neg h] at h1; cases h1
theorem RpL.drop {K : PySem.W.Frag} {G H : Hp} {vs : List V} {ds : List D} (a : RpL K G H vs ds) (n : Nat) : RpL K G H (vs.drop n) (ds.drop n) := by
  refine ⟨by rw [List.length_drop, List.length_drop, a.1], fun i v d h1 h2 => ?_⟩
  rw [List.getElem?_drop] at h1 h2
  exact a.2 (n + i) v d h1 h2
theorem lop_insert {K : PySem.W.Frag} : LOpS K rInsert fInsert := fun F H p vs xs as args as' hs hp ra rx e => by
  unfold fInsert at e
  split at e
  · rename_i i d
    split at e
    · rename_i hc
      cases e
      obtain ⟨hl, h0, h1⟩ := hc
      obtain ⟨hlen, hx⟩ := rx
      match xs, hlen, hx with
      | [x, y], _, hx =>
        have r1 := hx 0 x (.int i) rfl rfl
        have r2 := hx 1 y d rfl rfl
        cases r1 with
        | int => exact ⟨vs.take i.toNat ++ [y] ++ vs.drop i.toNat, ((ra.take _).append (RpL.cons r2 RpL.nil)).append (ra.drop _), fun Q q => ⟨p, vs, i, y, rfl, rfl, hp, by rw [sizeLine_eq, ra.1]; exact hl, h0, h1, q _⟩⟩
    · cases e
  · cases e
/-! ### list.index of numbers -/
def oIndex (ds : List D) : D → Option D
  | .int z => (intsD ds).bind fun is => if z ∈ is then some (.int (is.idxOf z : Nat)) else none
  | _ => none
def mIndex (mo me : M) : M := mb mo fun a => match a with
  | .lst ds => mb me fun b => ret (oIndex ds b)
  | _ => ret none
section
variable {X : Cx} {C : Ctx} {wx : WX} {g : Rg} {k : Nat} {oe e : Expr} {apos pos : Pos} {mo me : M}
theorem ve_index (ho : PE X oe (W C wx .bo 0 mo)) (he : PE X e (W C wx .bo 0 me))
    (hs : starEach [e] X.env = (false, eval e X.env) :: starEach [] X.env := by rfl) (hbase : attributeBase oe "index" X.env (eval oe X.env) = eval oe X.env := by rfl) (hline : (apos.endLine == pos.line) = true := by rfl) (hK : X.K = C.K := by rfl)
    (hfew : ((backTo pos (starEach [e] X.env)).all (fun x => !x.1) && (backToKw pos (keywordEach [] X.env)).all (fun x => x.1.isSome)
      && decide (([e] : List Expr).length + ([] : List Keyword).length + (if ([] : List Keyword).isEmpty then 0 else 1) < 30)) = true := by rfl) (hpl : (backTo pos (starEach [] X.env)).any (·.1) = false := by rfl) :
    PE X (.Call (.Attribute oe "index" apos) [e] [] pos) (W C wx g k (mIndex mo me)) :=
  (pe_bm PySem.F.plainAttrs_list PySem.F.slot_list_index PySem.F.type_list_index mt_index ho (pa_cons he pa_nil hs) hbase hfew hline hs hpl).wk fun σ H Q w => by
  obtain ⟨F, B, n, ds, S, h⟩ := w
  refine ⟨F, B, n, ds, S, (h.bind fun F1 H1 F2 H2 v d G r => r.tr G).mono fun x H1 ⟨F1, n1, da, G1, S1, ⟨A1, r1, f1⟩, h1⟩ => ?_⟩
  cases da with
  | lst l =>
    have r1c := r1
    cases r1 with
    | @lst _ p vs _ hh hl c =>
      rw [hK]
      refine ⟨.inl ⟨rfl, vs, sqL_mono hh (rg_same S1.fh)⟩, F1, B, n1, ds, S1, (h1.bind fun F1 H1 F2 H2 v d G r => r.tr G).mono fun y H2 ⟨F2, n2, db, G2, S2, ⟨A2, r2, f2⟩, h2⟩ => ?_⟩
      obtain ⟨d, e, q⟩ := h2.sc S2
      cases db with
      | int z =>
        unfold oIndex at e
        cases hb : intsD l with
        | none => rw [hb] at e; cases e
        | some is =>
          rw [hb] at e
          simp only [Option.bind_some] at e
          split at e
          · rename_i hz
            cases e
            have r1' : Rp C.K (rg C.q .bo F2 H2) H2 0 (.ref p) (.lst l) (fun _ => False) := Rp.go0 (g := .bo) r1c G2
            cases r1' with
            | @lst _ _ vs' _ hh' hl' c' =>
            have hv := ints_of (RpL.of hl' c') hb
            subst hv
            have hyz : y = V.int z := by cases r2; rfl
            subst hyz
            have hj := List.idxOf_lt_length_of_mem hz
            refine ⟨p, is.map V.int, .int z, is.idxOf z, .int z, rfl, rfl, sqL_mono hh' (rg_same S2.fh), rfl, ?_, ?_, ?_, ?_, q _ rfl⟩
            · rw [List.all_eq_true]
              intro u hu
              obtain ⟨i, _, rfl⟩ := List.mem_map.mp hu
              rfl
            · rw [List.getElem?_map, List.getElem?_eq_getElem hj, List.getElem_idxOf hj]; rfl
            · show (z == z) = true
              simp
            · intro m z' hm hz'
              rw [List.getElem?_map] at hz'
              cases hq : is[m]? with
              | none => rw [hq] at hz'; cases hz'
              | some i =>
                rw [hq] at hz'
                cases hz'
                show (i == z) = false
                have := List.not_of_lt_findIdx (p := (· == z)) hm
                have e := (List.getElem?_eq_some_iff.mp hq).2
                rw [e] at this
                simpa using this
          · cases e
      | _ => cases e
  | _ =>
    obtain ⟨d, e, q⟩ := h1.retE
    cases e
noncomputable def oListR : D → Option D
  | .int j => if r62 j = true ∧ j ≤ 16777216 then some (.lst (rngD 0 j.toNat)) else none
  | _ => none
theorem ve_listR {a : Expr} {m : M} {p p2 p3 : Pos} (hm : X.mg "list" = none) (hmr : X.mg "range" = none) (ha : PE X a (W C wx .bo 0 m)) (hg : Gl X "list" := by rfl) (hgr : Gl X "range" := by rfl) (na : starEach [a] X.env = (false, eval a X.env) :: starEach [] X.env := by rfl)
    (hs : starEach [.Call (.Name "range" p2) [a] [] p3] X.env = (false, eval (.Call (.Name "range" p2) [a] [] p3) X.env) :: starEach [] X.env := by rfl) (hc : X.calm = true := by rfl) :
    PE X (.Call (.Name "list" p) [.Call (.Name "range" p2) [a] [] p3] [] pos) (W C wx .fz 1 (m1 m oListR)) :=
  (pe_listRg hc hg hm (prg_1 hgr hmr ha na) hs).wk fun σ H Q w => by
  obtain ⟨F, B, n, ds, S, h⟩ := w
  refine ⟨F, B, n, ds, S, (h.bind fun F1 H1 F2 H2 v d G r => r.tr G).mono fun x H1 ⟨F1, n1, d, G1, S1, ⟨A1, r1, f1⟩, h1⟩ => ?_⟩
  obtain ⟨d2, e, q⟩ := h1.retE
  cases d with
  | int j =>
    unfold oListR at e
    dsimp only at e
    split at e
    · rename_i hj
      cases e
      have hx : x = .int j := by cases r1; rfl
      subst hx
      have b := r62_ok hj.1
      refine ⟨j, rfl, ⟨by omega, by omega, by omega, by omega, by omega⟩, fun p hp => ?_⟩
      obtain ⟨G2, S2⟩ := S1.newO (o := .lst _) hp
      refine q (.ref p) F1 _ G2 S2 ⟨fun a => a = p, .lstO (fun _ _ => False) upd_same rfl ?_ (fun i v d a' b' => ?_) (fun _ _ h => h.elim) (fun _ _ _ h => h.elim), Fr.one S1.fh hp rfl⟩
      · rw [rgV_length, rng_len]; simp
      · 
        have hd : (rngD 0 j.toNat)[i]? = some d := b'
        obtain ⟨rfl, hi⟩ := rng_get hd
        have hl : i < (j - 0).toNat := by omega
        unfold rgV at a'
        rw [List.getElem?_map, List.getElem?_range hl] at a'
        cases a'
        exact .int
    · cases e
  | _ => cases e
end
end GW

namespace GW
open PySem L2 PyProof.Rows
/-! ### sorted of numbers -/
def isI : D → Bool
  | .int _ => true
  | _ => false
theorem isI_pp {d : D} (h : isI d = true) : pp d ≠ .none ∧ ∀ xs, pp d ≠ .tuple xs := by
  cases d with
  | int i =>
    have e : pp (.int i) = .int i := rfl
    rw [e]
    exact ⟨fun z => (by cases z), fun xs z => (by cases z)⟩
  | _ => cases h
def oSortI : List D → Option D
  | [.lst ds] => if (okQ ds && (flats ds && (ds.all isI && decide (ds.length ≤ 16777216)))) = true then some (.lst (ds.mergeSort leQ)) else none
  | _ => none
section
variable {X : Cx} {C : Ctx} {wx : WX} {e : Expr} {p pos : Pos} {ms : Mo (List D)} {g : Rg}
theorem ve_sortI (hu : X.A.units + 64 < cLine) (hm : X.mg "sorted" = none) (ha : PA X [e] (WA C wx g ms)) (hg : Gl X "sorted" := by rfl)
    (hs : starEach [e] X.env = (false, eval e X.env) :: starEach [] X.env := by rfl) (hpl : (backTo pos (starEach [] X.env)).any (·.1) = false := by rfl) (hK : X.K = C.K := by rfl) : PE X (.Call (.Name "sorted" p) [e] [] pos) (W C wx .fz 1 (mCB ms oSortI)) := by
  refine (pe_callB (cr_sortD hu) hg hm PyProof.Rows.boot_sorted ha (by decide) (by decide) hs hpl).wk fun σ H Q w => ?_
  obtain ⟨F, B, n, ds, S, h⟩ := w
  refine ⟨F, B, n, ds, S, (h.bind fun F1 H1 F2 H2 v d G r => r.tr G).mono fun xs H1 ⟨F1, n1, da, G1, S1, r1, h1⟩ => ?_⟩
  obtain ⟨d, e, q⟩ := h1.retE
  unfold oSortI at e
  split at e
  · rename_i l
    split at e
    · rename_i hok
      cases e
      simp only [Bool.and_eq_true, decide_eq_true_eq, List.all_eq_true] at hok
      obtain ⟨hok, hfl, htp, hln⟩ := hok
      have ok := okQ_ok hok
      obtain ⟨v, rfl, r⟩ := r1.one
      cases r with
      | @lst _ a vs _ hh l0 c =>
        rw [hK]
        have z1 : (vs.zip l).map (·.1) = vs := List.map_fst_zip (by omega)
        have z2 : (vs.zip l).map (·.2) = l := List.map_snd_zip (by omega)
        have zm : ∀ b ∈ vs.zip l, ∃ i, vs[i]? = some b.1 ∧ l[i]? = some b.2 := fun b hb => by
          obtain ⟨i, hi⟩ := List.getElem?_of_mem hb
          rw [List.getElem?_zip_eq_some] at hi
          exact ⟨i, hi⟩
        have z3 : (vs.zip l).map (fun b => pp b.2) = l.map pp := by
          have := congrArg (List.map pp) z2
          rw [List.map_map] at this
          exact this
        have hms : ((vs.zip l).mergeSort fun x y => leQ x.2 y.2).map (·.2) = l.mergeSort leQ := by
          rw [List.map_mergeSort (s := leQ) (f := fun x : V × D => x.2) fun a _ b _ => rfl, z2]
        refine ⟨a, vs.zip l, rfl, by rw [z1]; exact sqL_mono hh (rg_same S1.fh), fun b hb => ?_, fun x hx y hy => ?_, .inr fun x hx => ?_, by rw [List.length_zip, sizeLine_eq]; omega, fun b hb => ?_, fun p hp => ?_⟩
        · obtain ⟨i, h1, h2⟩ := zm b hb
          exact dp_of (rg_same S1.fh) (c i _ _ h1 h2) rfl ((toPs_pp ok.ps).2 _ (List.mem_of_getElem? h2))
        · rw [z3] at hx hy
          obtain ⟨x', hx', rfl⟩ := List.mem_map.mp hx
          obtain ⟨y', hy', rfl⟩ := List.mem_map.mp hy
          exact ok.al _ hx' _ hy'
        · rw [z3] at hx
          obtain ⟨x', hx', rfl⟩ := List.mem_map.mp hx
          exact isI_pp (htp x' hx')
        · obtain ⟨i, _, h2⟩ := zm b hb
          exact ok.dp _ (List.mem_of_getElem? h2)
        · obtain ⟨G2, S2⟩ := S1.newO (o := .lst (((vs.zip l).mergeSort fun x y => leQ x.2 y.2).map (·.1))) hp
          refine q (.ref p) F1 _ G2 S2 ⟨fun a => a = p, .lstO (fun _ _ => False) upd_same rfl (by rw [← hms, List.length_map, List.length_map]) (fun i y d hy hd => ?_) (fun _ _ h => h.elim) (fun _ _ _ h => h.elim), Fr.one S1.fh hp rfl⟩
          rw [← hms, List.getElem?_map] at hd
          rw [List.getElem?_map] at hy
          cases hb : ((vs.zip l).mergeSort fun x y => leQ x.2 y.2)[i]? with
          | none => rw [hb] at hd; cases hd
          | some b =>
            rw [hb] at hd hy
            cases hd; cases hy
            have hbm : b ∈ vs.zip l := (List.mergeSort_perm _ _).mem_iff.mp (List.mem_of_getElem? hb)
            obtain ⟨j, h1, h2⟩ := zm b hbm
            have r3 : Rp C.K F1 H1 0 b.1 b.2 (fun _ => False) := (c j _ _ h1 h2).flat_any (flats_mem hfl (List.mem_of_getElem? h2)) _ _ _
            exact Rp.go0 (g := .fz) r3 G2
    · cases e
  · cases e
end
theorem dlt_int (a b : Int) : dlt (.int a) (.int b) = decide (a < b) := by
  unfold dlt
  have e : ∀ i : Int, pp (.int i) = .int i := fun _ => rfl
  rw [e, e, PySem.W.dataLt_int]
theorem ov_sortI (l : List Int) (hz : l.length ≤ 16777216) : oSortI [.lst (l.map D.int)] = some (.lst ((l.mergeSort fun a b => decide (a ≤ b)).map D.int)) := by
  have key : ∀ d ∈ l.map D.int, ∃ i, d = .int i := fun d hd => by
    obtain ⟨i, _, rfl⟩ := List.mem_map.mp hd
    exact ⟨i, rfl⟩
  have h1 : okQ (l.map D.int) = true := okQ_of (fun d hd => by obtain ⟨i, rfl⟩ := key d hd; rfl) (fun d hd => by obtain ⟨i, rfl⟩ := key d hd; rfl) (fun d hd => by
      obtain ⟨i, rfl⟩ := key d hd
      show PyData.depth (.int i) ≤ 60
      simp [PyData.depth]) fun d hd e he => by
    obtain ⟨i, rfl⟩ := key d hd
    obtain ⟨j, rfl⟩ := key e he
    rfl
  have h2 : flats (l.map D.int) = true := flats_iT l
  have h3 : (l.map D.int).all isI = true := List.all_eq_true.mpr fun d hd => by
    obtain ⟨i, rfl⟩ := key d hd; rfl
  show (if (okQ (l.map D.int) && (flats (l.map D.int) && ((l.map D.int).all isI && decide ((l.map D.int).length ≤ 16777216)))) = true then _ else none) = _
  rw [h1, h2, h3, if_pos (by simpa using hz), List.map_mergeSort (s := leQ) (f := D.int) fun a _ b _ => ?_]
  unfold leQ
  rw [dlt_int]
  by_cases hab : b < a
  · have : ¬ a ≤ b := by omega
    simp [hab, this]
  · have : a ≤ b := by omega
    simp [hab, this]
end GW

namespace GW
open PySem L2 PyProof.Rows
/-! ### a part of a list of one's own, its items flat: a new list -/
def oSlF (lo hi : Option Int) : D → Option D
  | .lst ds => if flats ds = true then some (.lst (cutD ds lo hi)) else none
  | _ => none
def mSlF (m : M) (ml mh : Mo (Option Int)) : M := mb m fun d => mb ml fun lo => mb mh fun hi => ret (oSlF lo hi d)
section
variable {X : Cx} {C : Ctx} {wx : WX} {g : Rg} {k : Nat} {a : Expr} {pos : Pos} {m : M}
theorem tSlF_of {ml mh : Mo (Option Int)} {Rr : Hp → Hp → Hp → V → D → Prop} (htr : ∀ F H F1 H1 F2 H2 v d, GoC C.q F H F1 H1 → Rr H1 F2 H2 v d → Rr H F2 H2 v d)
    (hend : ∀ F B σ H n ds x d d' lo hi (Q : VK), Sim C F B σ H n ds → Rp C.K (rg C.q g F H) H 0 x d (fun _ => False) → oSlF lo hi d = some d' → (∀ v F' H', GoC C.q F H F' H' → Sim C F' B σ H' n ds → Rr H F' H' v d' → Q v H') → rSl C.K x lo hi H Q)
    {σ : L2.St} {H : Hp} {Q : VK} (w : WW C wx Rr (mSlF m ml mh) σ H Q) : tSl (rSl C.K) (W C wx g 0 m) (WO C wx ml) (WO C wx mh) σ H Q := by
  obtain ⟨F, B, n, ds, S, h⟩ := w
  refine ⟨F, B, n, ds, S, (h.bind fun F1 H1 F2 H2 v d G r => htr _ _ _ _ _ _ _ _ G r).mono fun x H1 ⟨F1, n1, d, G1, S1, ⟨A1, r1, f1⟩, h1⟩ => ?_⟩
  refine ⟨F1, B, n1, ds, S1, (h1.bind fun F1 H1 F2 H2 v d G r => htr _ _ _ _ _ _ _ _ G r).mono fun lo H2 ⟨F2, n2, lo', G2, S2, e2, h2⟩ => ?_⟩
  have e2 : lo = lo' := e2
  subst e2
  refine ⟨F2, B, n2, ds, S2, (h2.bind fun F1 H1 F2 H2 v d G r => htr _ _ _ _ _ _ _ _ G r).mono fun hi H3 ⟨F3, n3, hi', G3, S3, e3, h3⟩ => ?_⟩
  have e3 : hi = hi' := e3
  subst e3
  obtain ⟨d4, e4, q⟩ := h3.retE
  exact hend F3 B σ H3 n3 ds x d d4 lo hi Q S3 (Rp.go0 (g := g) r1 (G2.trans G3)) e4 q
theorem ve_slF {lo hi : Option Expr} {ml mh : Mo (Option Int)} {p2 : Pos} (ha : PE X a (W C wx .bo 0 m)) (hl : PO X lo (WO C wx ml)) (hh : PO X hi (WO C wx mh)) (hK : X.K = C.K := by rfl) : PE X (.Subscript a (.Slice lo hi none p2) pos) (W C wx .fz 1 (mSlF m ml mh)) := by
  refine (pe_slice sl_all ha hl hh).wk fun σ H Q w => ?_
  rw [hK]
  refine tSlF_of (g := .bo) (fun F H F1 H1 F2 H2 v d G r => r.tr G) (fun F B σ H n ds x d d' lo hi Q S r e q => ?_) w
  cases r with
  | @lst _ _ vs l0 h l c =>
    unfold oSlF at e
    dsimp only at e
    split at e
    · rename_i hf
      cases e
      refine .inl ⟨_, _, rfl, sqL_mono h (rg_same S.fh), fun p hp => ?_⟩
      obtain ⟨G2, S2⟩ := S.newO (o := .lst (cutV _ lo hi)) hp
      obtain ⟨l2, c2⟩ := cut_pair (G := F) (H := H) (G' := F) l (fun i v d a b => Rp.go0 (g := .fz) ((c i v d a b).flat_any (flats_get hf b) F 0 (fun _ => False)) G2) lo hi
      exact q (.ref p) F _ G2 S2 ⟨fun a => a = p, .lstO (fun _ _ => False) upd_same rfl l2 c2 (fun _ _ h => h.elim) (fun _ _ _ h => h.elim), Fr.one S.fh hp rfl⟩
    · cases e
  | _ => cases e
end
@[simp] theorem ev_slF {m : M} {ml mh : Mo (Option Int)} {n : Int} {ds : DS} : mSlF m ml mh n ds = mb m (fun d => mb ml fun lo => mb mh fun hi => ret (oSlF lo hi d)) n ds := (rfl)
end GW

namespace GW
open PySem PySem.Spec L2 PyProof.Rows
/-! ### a floor under the tokens: all that runs ahead of a state keeps it -/
theorem thnf {α : Type} {t : Sem α} {Q Q' : α → Shared → Prop} {M : Model} {A : Around} {E : Value → Shared → Prop} {s : Shared} {N : Nat} (hn : N ≤ s.toks) (h : wpAny M A t Q E s) (hQ : ∀ a s', N ≤ s'.toks → Q a s' → Q' a s') : wpAny M A t Q' E s :=
  wpAny_mono (wpAny_toks_of hn h) (fun a s' x => hQ a s' x.1 x.2) fun _ _ x => x.2
def PEf (N : Nat) (X : Cx) (e : Expr) (t : TE) : Prop := ∀ (pins : List (Addr × Obj)) (s : Shared) (σ : L2.St) (H : Hp) (Q : VK), N ≤ s.toks → Inv X pins σ H s → t σ H Q → wpAny (model X.prog X.w) X.A (eval e X.env) (EP X pins σ Q) X.xe s
def PAf (N : Nat) (X : Cx) (es : List Expr) (t : TA) : Prop := ∀ (pos : Pos) (pins : List (Addr × Obj)) (s : Shared) (σ : L2.St) (H : Hp) (Q : List V → Hp → Prop), N ≤ s.toks → Inv X pins σ H s → t σ H Q → wpAny (model X.prog X.w) X.A (spliced (backTo pos (starEach es X.env))) (AP X pins σ Q) X.xe s
def PTf (N : Nat) (X : Cx) (e : Expr) (t : TT) : Prop := ∀ (pins : List (Addr × Obj)) (s : Shared) (σ : L2.St) (H : Hp) (Q : Bool → Hp → Prop), N ≤ s.toks → Inv X pins σ H s → t σ H Q → wpAny (model X.prog X.w) X.A (isTrue e X.env (eval e X.env)) (TP X pins σ Q) X.xe s
def PWf (N : Nat) (X : Cx) (e : Expr) (t : TT) : Prop := ∀ (whole : Sem Value) (pins : List (Addr × Obj)) (s : Shared) (σ : L2.St) (H : Hp) (Q : Bool → Hp → Prop), N ≤ s.toks → Inv X pins σ H s → t σ H Q → wpAny (model X.prog X.w) X.A (isTrue e X.env whole) (TP X pins σ Q) X.xe s
def PSf (N : Nat) (X : Cx) (st : Stmt) (t : TS) : Prop := ∀ (pins : List (Addr × Obj)) (s : Shared) (σ : L2.St) (H : Hp) (D : Ends), N ≤ s.toks → Inv X pins σ H s → t D σ H → wpAny (model X.prog X.w) X.A (exec st X.env) (SP X pins D) X.xe s
def PSsf (N : Nat) (X : Cx) (st : List Stmt) (t : TS) : Prop := ∀ (pins : List (Addr × Obj)) (s : Shared) (σ : L2.St) (H : Hp) (D : Ends), N ≤ s.toks → Inv X pins σ H s → t D σ H → wpAny (model X.prog X.w) X.A (execs st X.env) (SP X pins D) X.xe s
section
variable {N : Nat} {X : Cx} {a b e o c : Expr} {es : List Expr} {st : Stmt} {sts sa sb : List Stmt} {t ta tb te : TE} {tl : TA} {tt tc : TT} {u v : TS} {pos apos p : Pos}
theorem PEf.of (h : PE X e t) : PEf N X e t := fun pins s σ H Q _ I q => h.run pins s σ H Q I q
theorem PAf.of (h : PA X es tl) : PAf N X es tl := fun pos pins s σ H Q _ I q => h.run pos pins s σ H Q I q
theorem PTf.of (h : PT X e tt) : PTf N X e tt := fun pins s σ H Q _ I q => h.run pins s σ H Q I q
theorem PWf.of (h : PW X e tt) : PWf N X e tt := fun w pins s σ H Q _ I q => h.run w pins s σ H Q I q
theorem PWf.pt (h : PWf N X e tt) : PTf N X e tt := fun pins s σ H Q hn I q => h _ pins s σ H Q hn I q
theorem PSf.of (h : PS X st u) : PSf N X st u := fun pins s σ H D _ I q => h.run pins s σ H D I q
theorem PSsf.of (h : PSs X sts u) : PSsf N X sts u := fun pins s σ H D _ I q => h.run pins s σ H D I q
theorem PEf.wk {t' : TE} (h : PEf N X e t) (w : ∀ σ H Q, t' σ H Q → t σ H Q) : PEf N X e t' := fun pins s σ H Q hn I q => h pins s σ H Q hn I (w _ _ _ q)
theorem PAf.wk {t' : TA} (h : PAf N X es tl) (w : ∀ σ H Q, t' σ H Q → tl σ H Q) : PAf N X es t' := fun pos pins s σ H Q hn I q => h pos pins s σ H Q hn I (w _ _ _ q)
theorem PTf.wk {t' : TT} (h : PTf N X e tt) (w : ∀ σ H Q, t' σ H Q → tt σ H Q) : PTf N X e t' := fun pins s σ H Q hn I q => h pins s σ H Q hn I (w _ _ _ q)
theorem PWf.wk {t' : TT} (h : PWf N X e tt) (w : ∀ σ H Q, t' σ H Q → tt σ H Q) : PWf N X e t' := fun wh pins s σ H Q hn I q => h wh pins s σ H Q hn I (w _ _ _ q)
theorem PSf.wk {t' : TS} (h : PSf N X st u) (w : ∀ D σ H, t' D σ H → u D σ H) : PSf N X st t' := fun pins s σ H D hn I q => h pins s σ H D hn I (w _ _ _ q)
theorem PSsf.wk {t' : TS} (h : PSsf N X sts u) (w : ∀ D σ H, t' D σ H → u D σ H) : PSsf N X sts t' := fun pins s σ H D hn I q => h pins s σ H D hn I (w _ _ _ q)
theorem paf_nil : PAf N X [] tNil := .of pa_nil
theorem paf_cons (ha : PEf N X e te) (hr : PAf N X es tl) (hs : starEach (e :: es) X.env = (false, eval e X.env) :: starEach es X.env := by rfl) : PAf N X (e :: es) (tCons te tl) := by
  intro pos pins s σ H Q hn I h
  rw [hs]
  show wpAny _ _ (spliced ((false, eval e X.env) :: backTo pos (starEach es X.env))) _ _ s
  refine Calls.spliced_cons (thnf hn (ha pins s σ H _ hn I h) fun v s1 h1 ⟨x, H1, I1, r1, q1⟩ => ?_)
  exact thn (hr pos pins s1 σ H1 _ h1 I1 q1) fun us s2 ⟨xs, H2, I2, r2, q2⟩ => ⟨x :: xs, H2, I2, .cons r1 r2, q2⟩
theorem binF (ha : PEf N X a ta) (hb : PEf N X b tb) {pins : List (Addr × Obj)} {s : Shared} {σ : L2.St} {H : Hp} {R : V → V → Hp → Prop} (hn : N ≤ s.toks) (I : Inv X pins σ H s)
    (h : ta σ H fun x H1 => tb σ H1 fun y H2 => R x y H2) {Q : Value → Shared → Prop} {f : Value → Value → Sem Value}
    (hf : ∀ v u s2 x y H2, Inv X pins σ H2 s2 → RelV x v → RelV y u → R x y H2 → wpAny (model X.prog X.w) X.A (f v u) Q X.xe s2) :
    wpAny (model X.prog X.w) X.A (eval a X.env) (fun v s₁ => wpAny (model X.prog X.w) X.A (eval b X.env) (fun u s₂ => wpAny (model X.prog X.w) X.A (f v u) Q X.xe s₂) X.xe s₁) X.xe s :=
  thnf hn (ha pins s σ H _ hn I h) fun v s1 h1 ⟨x, H1, I1, r1, q1⟩ => thn (hb pins s1 σ H1 _ h1 I1 q1) fun u s2 ⟨y, H2, I2, r2, q2⟩ => hf v u s2 x y H2 I2 r1 r2 q2
theorem pef_op {op : Operator} {r : R2} (ho : OpR X (binaryOp op) r) (ha : PEf N X a ta) (hb : PEf N X b tb) : PEf N X (.BinOp a op b pos) (tOp r ta tb) := fun pins s σ H Q hn I h =>
  wpAny_BinOp (binF ha hb hn I h fun v u s2 x y H2 I2 rx ry q => ho pins s2 σ H2 x y v u Q I2 rx ry q)
theorem pef_cmpR {op : CmpOp} {r : R2} (ho : OpR X (compareOp op) r) (ha : PEf N X a ta) (hb : PEf N X b tb) (hm : behindInMarks op b = false) : PEf N X (.Compare a [op] [b] pos) (tOp r ta tb) := fun pins s σ H Q hn I h =>
  wpAny_Compare1 (binF ha hb hn I h fun v u s2 x y H2 I2 rx ry q => ho pins s2 σ H2 x y v u Q I2 rx ry q) hm
theorem ptf_cmpR {op : CmpOp} {r : R2} (ho : OpR X (compareOp op) r) (ha : PEf N X a ta) (hb : PEf N X b tb) (hm : behindInMarks op b = false) : PTf N X (.Compare a [op] [b] pos) (tTest (tOp r ta tb)) := by
  intro pins s σ H Q hn I h
  refine wpAny_isTrue_Compare1 (thnf hn (ha pins s σ H _ hn I h) fun v s1 h1 ⟨x, H1, I1, r1, q1⟩ => thn (hb pins s1 σ H1 _ h1 I1 q1) fun u s2 ⟨y, H2, I2, r2, q2⟩ =>
    thn (ho pins s2 σ H2 x y v u _ I2 r1 r2 q2) fun c s3 ⟨z, H3, I3, r3, k, e, q3⟩ => ?_) hm
  subst e
  cases r3
  exact wpAny_truthy_bool ⟨H3, I3, q3⟩
theorem pef_ix {r : R2} (hr : IxR X r) (ha : PEf N X a ta) (hb : PEf N X b tb) (hs : PlainIx b) : PEf N X (.Subscript a b pos) (tOp r ta tb) := fun pins s σ H Q hn I h =>
  Subscript_ (binF ha hb hn I h fun v u s2 x y H2 I2 rx ry q => hr a b pins s2 σ H2 x y v u Q I2 rx ry q (hs _ _))
theorem pef_fld {f : Str} (he : PEf N X e ta) (hb : attributeBase e f X.env (eval e X.env) = eval e X.env) : PEf N X (.Attribute e f pos) (tFld X.K ta f) := by
  intro pins s σ H Q hn I h
  refine attr_of hb (thn (he pins s σ H _ hn I h) fun u s1 ⟨x, H1, I1, rx, a, C, dx, fs, v, ex, ea, c, n, l, q⟩ => ?_)
  subst ex
  cases rx
  exact getattr_ok I1 ea c n l fun u' s2 I2 ru => ⟨v, H1, I2, ru, q⟩
theorem pef_callTy {T : String} {x : Str} {r : List V → Hp → VK → Prop} (hc : CallR X (.type T) r) (hg : Gl X x) (hm : X.mg x = none) (hv : bootBuiltins x = some (.type T)) (ha : PAf N X (e :: es) tl) (hn : x ≠ "__name__" := by decide) (hdb : (x == ("__debug__" : Str)) = false := by decide)
    (he : starEach (e :: es) X.env = (false, eval e X.env) :: starEach es X.env := by rfl) (hpl : (backTo pos (starEach es X.env)).any (·.1) = false := by rfl) : PEf N X (.Call (.Name x p) (e :: es) [] pos) (tCB r tl) := fun pins s σ H Q hN I h =>
  wpAny_Call_Name_kw (ld_blt I hg hm hv (PyProof.Rows.callWith_type1 (thn (ha pos pins s σ H _ hN I h) fun us s1 ⟨vs, H1, I1, r1, q1⟩ => hc pins s1 σ H1 vs us Q I1 r1 q1) he hpl) hn hdb)
theorem pef_callB {id : String} {x : Str} {r : List V → Hp → VK → Prop} (hc : CallR X (.builtin id) r) (hg : Gl X x) (hm : X.mg x = none) (hv : bootBuiltins x = some (.builtin id)) (ha : PAf N X (e :: es) tl) (hn : x ≠ "__name__" := by decide) (hdb : (x == ("__debug__" : Str)) = false := by decide)
    (he : starEach (e :: es) X.env = (false, eval e X.env) :: starEach es X.env := by rfl) (hpl : (backTo pos (starEach es X.env)).any (·.1) = false := by rfl) : PEf N X (.Call (.Name x p) (e :: es) [] pos) (tCB r tl) := fun pins s σ H Q hN I h =>
  wpAny_Call_Name_kw (ld_blt I hg hm hv (PyProof.Rows.callWith_builtin1 (thn (ha pos pins s σ H _ hN I h) fun us s1 ⟨vs, H1, I1, r1, q1⟩ => hc pins s1 σ H1 vs us Q I1 r1 q1) he hpl) hn hdb)
theorem ptf_val (h : PEf N X e t) (he : ∀ whole, isTrue e X.env whole = (do let v ← whole; standAt e.pos; holding [v] (truthy v)) := by intro _; rfl) : PTf N X e (tB t) := by
  intro pins s σ H Q hn I hw
  refine isTrue_plain (thn (h pins s σ H _ hn I hw) fun v s1 ⟨x, H1, I1, r1, q1⟩ => ?_) (he _)
  obtain ⟨d, rfl, q⟩ := q1
  cases r1
  exact wpAny_truthy_bool ⟨H1, I1, q⟩
theorem ptf_not (ha : PTf N X a tt) : PTf N X (.UnaryOp .Not a pos) (tNot tt) := fun pins s σ H Q hn I h => isTrue_not (ha pins s σ H (fun c H1 => Q (!c) H1) hn I h)
theorem pwf_and1 (ha : PTf N X a tt) : PWf N X (.BoolOp .And [a] pos) tt := fun wh pins s σ H Q hn I h => isTrue_and (thn (ha pins s σ H Q hn I h) fun c s1 e => by
  cases c with
  | true => exact isTrue_and_nil e
  | false => exact e)
theorem pwf_or1 (ha : PTf N X a tt) : PWf N X (.BoolOp .Or [a] pos) tt := fun wh pins s σ H Q hn I h => isTrue_or (thn (ha pins s σ H Q hn I h) fun c s1 e => by
  cases c with
  | false => exact isTrue_or_nil e
  | true => exact e)
theorem pwf_and {rest : List Expr} (ha : PTf N X a tt) (hb : PWf N X (.BoolOp .And (b :: rest) pos) tc) : PWf N X (.BoolOp .And (a :: b :: rest) pos) (tAnd tt tc) := fun wh pins s σ H Q hn I h =>
  isTrue_and (thnf hn (ha pins s σ H _ hn I h) fun c s1 h1 ⟨H1, I1, q1⟩ => by
    cases c with
    | true => exact hb wh pins s1 σ H1 Q h1 I1 q1
    | false => exact ⟨H1, I1, q1⟩)
theorem pwf_or {rest : List Expr} (ha : PTf N X a tt) (hb : PWf N X (.BoolOp .Or (b :: rest) pos) tc) : PWf N X (.BoolOp .Or (a :: b :: rest) pos) (tOr tt tc) := fun wh pins s σ H Q hn I h =>
  isTrue_or (thnf hn (ha pins s σ H _ hn I h) fun c s1 h1 ⟨H1, I1, q1⟩ => by
    cases c with
    | true => exact ⟨H1, I1, q1⟩
    | false => exact hb wh pins s1 σ H1 Q h1 I1 q1)
/-! statements -/
theorem psf_set {i : Nat} {x : Str} {pos' : Pos} (hN : X.N.Nodup) (hi : X.N[i]? = some x) (hx : Loc X.env.scope x) (he : PEf N X e te) (hs : swapsWith e (some (.Name x pos')) pos.line X.env = pure false := by rfl) (hf : X.fn x = true ∨ X.env.scope.names.lookup x = some .local := by first | exact .inl rfl | exact .inr rfl | assumption) :
    PSf N X (.Assign [.Name x pos'] e pos) (tAsg te (gName i)) := fun pins s σ H D hn I h =>
  wpAny_Assign_Name (thn (he pins s σ H _ hn I h) fun v s1 ⟨y, H1, I1, r1, q1⟩ => store_ok I1 hN hi hx r1 (fun s2 I2 => ⟨_, H1, I2, q1⟩) hf) hs
theorem psf_asg {tg : Expr} {g : TG} (he : PEf N X e te) (hg : PG X tg g) (hs : swapsWithSole [tg] e pos.line X.env = pure false := by rfl) (hw : swappedStores [tg] e X.env = pure none := by rfl)
    (h1 : (assignEach [tg] X.env).map (·.2) = [assign tg X.env] := by rfl) : PSf N X (.Assign [tg] e pos) (tAsg te g) := by
  intro pins s σ H D hn I h
  refine wpAny_Assign_stores (thn (he pins s σ H _ hn I h) fun v s1 ⟨x, H1, I1, r1, q1⟩ => ?_) hs hw
  rw [h1]
  exact thn (hg.run pins s1 σ H1 x v _ I1 r1 q1) fun _ s2 q => q
theorem psf_expr (he : PEf N X e te) (hs : swapsWith e none pos.line X.env = pure false := by rfl) : PSf N X (.Expr e pos) (tDrop te) := fun pins s σ H D hn I h =>
  wpAny_Expr_any (thn (he pins s σ H _ hn I h) fun v s1 ⟨x, H1, I1, r1, q1⟩ => ⟨σ, H1, I1, q1⟩) I.quiet hs
theorem psf_ret (he : PEf N X e te) : PSf N X (.Return (some e) pos) (tRet te) := fun pins s σ H D hn I h =>
  wpAny_Return_some (thn (he pins s σ H _ hn I h) fun v s1 ⟨x, H1, I1, r1, q1⟩ => ⟨x, σ, H1, I1, r1, q1⟩)
theorem psf_if (hc : PTf N X c tt) (ha : PSsf N X sa u) (hb : PSsf N X sb v) : PSf N X (.If c sa sb pos) (tIfS tt u v) := fun pins s σ H D hn I h =>
  wpAny_If (thnf hn (hc pins s σ H _ hn I h) fun d s1 h1 ⟨H1, I1, q1⟩ => by
    cases d with
    | true => exact ha pins s1 σ H1 D h1 I1 q1
    | false => exact hb pins s1 σ H1 D h1 I1 q1)
theorem pssf_cons (h1 : PSf N X st u) (h2 : PSsf N X sts v) : PSsf N X (st :: sts) (tSeq u v) := fun pins s σ H D hn I h =>
  wpAny_execs_cons (thnf hn (h1 pins s σ H { D with nx := v D } hn I h) fun f s1 hk q => by
    cases f with
    | next =>
      obtain ⟨σ', H', I', q⟩ := q
      exact h2 pins s1 σ' H' D hk I' q
    | ret v => exact q
    | brk => exact q
    | cont => exact q)
theorem pssf_one (h1 : PSf N X st u) : PSsf N X [st] u := fun pins s σ H D hn I h =>
  wpAny_execs_cons (thn (h1 pins s σ H D hn I h) fun f s1 q => by
    cases f with
    | next => exact wpAny_execs_nil q
    | ret v => exact q
    | brk => exact q
    | cont => exact q)
theorem psf_while (hp : PassesOwn (model X.prog X.w) X.A X.env X.xe) (hc : PTf N X c tt) (hb : PSsf N X sts u) : PSf N X (.While c sts [] pos) (tWhile tt u) := by
  intro pins s σ H D hn I h
  obtain ⟨W, ⟨m0, w0⟩, turn⟩ := h
  refine wpAny_While (codeAny_whileLoop (fun n s' => N ≤ s'.toks ∧ ∃ σ' H', Inv X pins σ' H' s' ∧ W n σ' H') ?_ m0 ⟨hn, σ, H, I, w0⟩)
  rintro n s1 ⟨k1, σ1, H1, I1, w1⟩
  refine wpAny_passesOwn hp (thnf k1 (hc pins s1 σ1 H1 _ k1 I1 (turn n σ1 H1 w1)) fun d s2 k2 ⟨H2, I2, q2⟩ => ?_)
  cases d with
  | true =>
    obtain ⟨Nx, hN, q2⟩ := q2
    rw [if_pos rfl]
    have go : ∀ {s3 : Shared}, N ≤ s3.toks → (∃ σ' H', Inv X pins σ' H' s3 ∧ Nx σ' H') → ∃ m, m < n ∧ N ≤ s3.toks ∧ ∃ σ' H', Inv X pins σ' H' s3 ∧ W m σ' H' := fun {s3} k3 ⟨σ3, H3, I3, n3⟩ => by
      obtain ⟨m', hm, w3⟩ := hN σ3 H3 n3
      exact ⟨m', hm, k3, σ3, H3, I3, w3⟩
    refine wpAny_passesOwn hp (thnf k2 (hb pins s2 σ1 H2 _ k2 I2 q2) fun f s3 k3 q3 => ?_)
    cases f with
    | next => exact go k3 q3
    | cont => exact go k3 q3
    | brk => exact q3
    | ret v => exact q3
  | false =>
    rw [if_neg Bool.false_ne_true]
    exact wpAny_execs_nil ⟨σ1, H2, I2, q2⟩
theorem psf_for {iter tg : Expr} {wi : TI} {g : TG} (hp : PassesOwn (model X.prog X.w) X.A X.env X.xe) (hc : X.calm = true) (hi : PI X tg iter wi) (hg : PG X tg g) (hb : PSsf N X sts u)
    (hs : ∀ x, foldedSetIterable iter X.env x = pure x := by intro _; rfl) : PSf N X (.For tg iter sts [] pos) (tFor wi g u) := by
  intro pins s σ H D hn I h
  refine wpAny_For (thnf hn (hi.run pins s σ H _ I h) fun v s1 k1 h1 => thnf k1 h1 fun itv s2 k2 h2 => ?_) hs
  obtain ⟨it, fp, tn, J, H2, e, I2, T, st2, f2, W, ⟨m0, w0⟩, turn⟩ := h2
  subst e
  have stat : ∀ {H' : Hp}, (∀ b ∈ fp, H' b = none) → ∀ b ∈ fp, FpOk X pins H' b := fun hn b hb => ⟨hn b hb, (f2 b hb).2⟩
  refine codeAny_forLoop_any (fun n s' => N ≤ s'.toks ∧ ∃ i σ' H', Inv X pins σ' H' s' ∧ tn i s'.heap ∧ (∀ b ∈ fp, H' b = none) ∧ W i n σ' H') ?_ m0 ⟨k2, 0, σ, H2, I2, st2, fun b hb => (f2 b hb).1, w0⟩
  rintro n s3 ⟨k3, i, σ3, H3, I3, st3, fr3, w3⟩
  rcases turn i n σ3 H3 w3 with ⟨stop, qn⟩ | ⟨go, Nx, hN, step⟩
  · refine wpAny_passesOwn hp (thn (T.done X rfl rfl rfl hc i pins s3 σ3 H3 X.xe I3 (stat fr3) st3 stop) fun r s4 ⟨hr, I4⟩ => ?_)
    subst hr
    exact wpAny_execs_nil ⟨σ3, H3, I4, qn⟩
  · refine wpAny_passesOwn hp (thnf k3 (T.item X rfl rfl rfl hc i pins s3 σ3 H3 X.xe I3 (stat fr3) st3 go) fun r s4 k4 ⟨w, hr, h4⟩ => ?_)
    subst hr
    refine wpAny_passesOwn hp (thnf k4 h4 fun _ s5 k5 ⟨x, H5, I5, r5, y5, st5, fr5⟩ => ?_)
    have I5' := I5.pinned (stat fr5) (T.obj _ _ st5)
    refine wpAny_passesOwn hp (thnf k5 (hg.run _ s5 σ3 H5 x w _ I5' r5 (step x H5 y5)) fun _ s6 k6 ⟨σ6, H6, I6, q6⟩ => ?_)
    refine wpAny_passesOwn hp (thnf k6 (hb _ s6 σ6 H6 _ k6 I6 q6) fun f s7 k7 q7 => ?_)
    have again : (∃ σ7 H7, Inv X (pins ++ pinsAt fp s5.heap) σ7 H7 s7 ∧ Nx σ7 H7) → ∃ m, m < n ∧ N ≤ s7.toks ∧ ∃ i σ' H', Inv X pins σ' H' s7 ∧ tn i s7.heap ∧ (∀ b ∈ fp, H' b = none) ∧ W i m σ' H' := fun ⟨σ7, H7, I7, n7⟩ => by
      obtain ⟨m', hm, w7⟩ := hN σ7 H7 n7
      have pinned : ∀ b ∈ fp, ∀ o, s5.heap.get? b = some o → s7.heap.get? b = some o ∧ H7 b = none := fun b hb o e =>
        ⟨(I7.pin (b, o) (List.mem_append_right _ (List.mem_append_right _ (mem_pinsAt hb e)))).1, (I7.pin (b, o) (List.mem_append_right _ (List.mem_append_right _ (mem_pinsAt hb e)))).2.1⟩
      refine ⟨m', hm, k7, i + 1, σ7, H7, I7.unpinned, T.keep _ _ _ st5 fun b hb o e => (pinned b hb o e).1, fun b hb => ?_, w7⟩
      obtain ⟨o, e, _⟩ := T.obj _ _ st5 b hb
      exact (pinned b hb o e).2
    cases f with
    | next => exact again q7
    | cont => exact again q7
    | brk => obtain ⟨σ7, H7, I7, q7⟩ := q7; exact ⟨σ7, H7, I7.unpinned, q7⟩
    | ret v => obtain ⟨x7, σ7, H7, I7, r7, q7⟩ := q7; exact ⟨x7, σ7, H7, I7.unpinned, r7, q7⟩
end
/-! ### calls, defs -/
structure FnF (N : Nat) (P : Program) (w : World) (K : PySem.W.Frag) (mg : Str → Option Value) (base : Heap) (CX : CXT) (k : Nat) (f : Addr) (fd : FuncData) (ps : List Str) (sp : Sp) : Prop where
  len : ∀ vs H Q E, sp vs H Q E → vs.length = ps.length
  run : ∀ (A : Around) (outer : List Env) (s : Shared) (H : Hp) (args : Args) (us : List Value) (vs : List V) (Q : VK) (E : XK), N ≤ s.toks → Room k A → Env0 P w K mg base A outer s H → BindsTo s fd args (ps.zip us) → Vals vs us → sp vs H Q E →
    codeAny (model P w) A (.call (.ref f) args) (CR CX outer P w H s Q E) s
theorem fnF_of {N : Nat} {P : Program} {w : World} {K : PySem.W.Frag} {mg : Str → Option Value} {base : Heap} {CX : CXT} {k : Nat} {f : Addr} {fd : FuncData} {ps : List Str} {sp : Sp} (F : FnOk P w K mg base CX k f fd ps sp) : FnF N P w K mg base CX k f fd ps sp :=
  ⟨F.len, fun A outer s H args us vs Q E _ => F.run A outer s H args us vs Q E⟩
section
variable {N : Nat} {X : Cx} {CX : CXT} {k : Nat} {f : Addr} {fd : FuncData} {ps : List Str} {sp : Sp} {E : L2.St → XK} {x : Str} {p pos : Pos} {e : Expr} {es : List Expr} {t : TA}
theorem pef_callS (F : FnF N X.prog X.w X.K X.mg X.base CX k f fd ps sp) (hr : Room k X.A) (hg : Gl X x) (hm : X.mg x = some (.ref f)) (hk : PySem.W.keepIn X.K (.ref f) = true) (hb : Binds X.K fd ps []) (hx : ∀ σ, PassesAt CX X σ (E σ))
    (ha : PAf N X (e :: es) t) (hdb : (x == ("__debug__" : Str)) = false := by decide) (he : starEach (e :: es) X.env = (false, eval e X.env) :: starEach es X.env := by rfl) (hpl : (backTo pos (starEach es X.env)).any (·.1) = false := by rfl) :
    PEf N X (.Call (.Name x p) (e :: es) [] pos) (tCallS sp E t) := by
  intro pins s σ H Q hn I h
  refine wpAny_Call_Name_kw (ld_glob I hg hm ?_ hdb)
  refine PySem.W.callWith_K (h₀ := X.base) I.ok.mod.kin hk (thnf hn (ha pos pins s σ H _ hn I h) fun us s1 h1 ⟨vs, H1, I1, r, q⟩ => ⟨I1.kIn, ?_⟩) he hpl
  have hl : us.length = ps.length := by rw [← r.length]; exact F.len _ _ _ _ q
  have b := hb s1 us I1.kIn (by rw [List.append_nil]; exact hl)
  rw [List.append_nil] at b
  refine wpAny_call (codeAny_mono (F.run X.A X.stack s1 H1 ⟨us, []⟩ us vs Q (E σ) h1 hr I1.env0 b r q) fun res s' hq => ?_)
  match res, hq with
  | .error e, hq => exact hx σ pins H1 s1 e s' I1 hq
  | .ok (.ret u), hq => exact I1.after hq
end
/-- a def's body under the floor -/
theorem fn_ofF {N : Nat} {CX : CXT} {P : Program} {w : World} {K : PySem.W.Frag} {mg : Str → Option Value} {base : Heap} {k : Nat} {f : Addr} {fd : FuncData} {x qual : Str} {params : Arguments} {body : List Stmt} {scope : Scope} {dvs : List V} {kws : List (Str × V)}
    {Ns ps : List Str} {sp : Sp} (Fu : FunD K x qual params body scope dvs kws f fd) (S : FnScope Ns ps scope) (len : ∀ vs H Q E, sp vs H Q E → vs.length = ps.length)
    (hbody : ∀ (cdv : Value) (A : Around) (outer : List Env) (s : Shared) (H : Hp) (vs : List V) (Q : VK) (E : XK), Room k (A.deeper (envOfC qual scope s.heap.objs.size f cdv)) → sp vs H Q E →
      ∃ t, PSsf N (cxOf CX P w K mg base Ns qual scope f cdv A outer s H E) body t ∧ t { nx := fun _ H' => Q .non H', rt := Q } (L2.start Ns vs) H) :
    FnF N P w K mg base CX (k + 1) f fd ps sp := by
  obtain ⟨oc, od, dV, kV, doc, pm, an, cdv, ct, osl, rfl, lk, hcd, _, _⟩ := Fu.ex
  refine ⟨len, fun A outer s H args us vs Q E hn hr e0 hb r hsp => ?_⟩
  have KX : K.In s.heap := e0.mod.kin.keeps fun b o e => (e0.bs b o e).1
  have lim : s.heap.NoLimit := e0.mod.nolimit.keeps fun b o e => (e0.bs b o e).1
  have kd : ∀ y ∈ ps.zip us, scope.names.lookup y.1 = some .local ∨ (scope.names.lookup y.1 = some .cell ∧ ((cellsFrom (s.heap.objs.size + 1) scope.names []).lookup y.1).isSome = true) := fun y hy =>
    (S.par y.1 (List.of_mem_zip (a := y.1) (b := y.2) hy).1).imp id fun q => ⟨q, PySem.W.cellsFrom_some _ _ _ (.inl q)⟩
  refine codeAny_call_function hr.depth (KX _ _ lk) rfl S.co S.gen rfl (PySem.W.codeRec_of KX hcd) (hb _ _ _ _ ?_)
  refine wpAny_with_toks hn ?_
  refine wpAny_newFunctionEnv_cells S.kind kd fun env he s1 xx => ?_
  subst he
  refine fun h1 => ⟨lim.keeps xx.toInCall.keep, codeAny_func ?_⟩
  obtain ⟨t, ht, hq⟩ := hbody cdv A outer s H vs Q E (hr.deeper _) hsp
  have I : Inv (cxOf CX P w K mg base Ns qual scope f cdv A outer s H E) [] (L2.start Ns vs) H s1 := inv_start S hr.hd e0 (len _ _ _ _ hsp) r xx
  refine wpAny_mono (ht [] s1 (L2.start Ns vs) H _ h1 I hq) (fun fl s' hs => ?_) fun e s' hs => hs
  have fin : ∀ {σ' : L2.St} {H' : Hp} {v : V} {u : Value}, Inv (cxOf CX P w K mg base Ns qual scope f cdv A outer s H E) [] σ' H' s' → RelV v u → Q v H' → CE outer P w H s Q u s' := fun {σ' H' v u} J rv q =>
    ⟨v, H', J.os, J.bare, J.base, J.hok, rv, q⟩
  match fl, hs with
  | .ret u, ⟨v, σ', H', J, rv, q⟩ => exact fin J rv q
  | .next, ⟨σ', H', J, q⟩ => exact fin (v := V.non) (u := Value.none) J rfl q
  | .brk, ⟨_, _, _, q⟩ => exact q.elim
  | .cont, ⟨_, _, _, q⟩ => exact q.elim
end GW

namespace GW
open PySem L2 PyProof.Rows
/-! ### the own rules under a floor (printed by mkfloor.py) -/
structure AvF (N : Nat) (P : Program) (w : World) (K : PySem.W.Frag) (mg : Str → Option Value) (base : Heap) (x : Str) (ps : List Str) (k : Nat) (sp : Sp) : Prop where
  ex : ∃ (f : Addr) (fd : FuncData), mg x = some (.ref f) ∧ PySem.W.keepIn K (.ref f) = true ∧ Binds K fd ps [] ∧ FnF N P w K mg base (L2.CX P w) k f fd ps sp
theorem Av.fl {N : Nat} {P : Program} {w : World} {K : PySem.W.Frag} {mg : Str → Option Value} {base : Heap} {x : Str} {ps : List Str} {k : Nat} {sp : Sp} (h : Av P w K mg base x ps k sp) : AvF N P w K mg base x ps k sp := by
  obtain ⟨f, fd, h1, h2, h3, h4⟩ := h.ex
  exact ⟨f, fd, h1, h2, h3, fnF_of h4⟩
section
variable {N : Nat} {X : Cx} {C : Ctx} {wx : WX} {g : Rg} {k kk kr np : Nat} {a b c e : Expr} {es : List Expr} {p pos : Pos} {x : Str} {ps : List Str} {f : Addr} {fd : FuncData} {fm : FM} {ci : Option Nat} {ms : Mo (List D)} {m ma mc : M} {ta tc : Mo Bool}
theorem vf_bo {m : M} (h : PEf N X e (W C wx .fz k m)) : PEf N X e (W C wx .bo 0 m) := by
  refine h.wk fun σ H Q w => ?_
  obtain ⟨F, B, n, ds, S, h⟩ := w
  refine ⟨F, B, n, ds, S, ?_⟩
  unfold WL at h ⊢
  cases e : m n ds with
  | none => rw [e] at h; exact h
  | some p =>
    rw [e] at h
    obtain ⟨o, n'⟩ := p
    cases o with
    | ex c fs => exact h
    | ok d =>
      rintro v F' H' G S' ⟨A, r, f⟩
      exact h v F' H' G S' ⟨fun _ => False, Rp.read S' r fun a ha q => by
        have := (f a ha).1
        exact S.nq q this, Fr.no⟩
theorem vf_frz {m : M} (h : PEf N X e (W C wx .fz k m)) : PEf N X e (W C wx .fz 0 m) := h.wk fun σ H Q w => W.frz w
theorem vf_flat {m : M} (h : PEf N X e (W C wx .bo 0 m)) : PEf N X e (W C wx g k (mFlat m)) := by
  refine h.wk fun σ H Q w => ?_
  obtain ⟨F, B, n, ds, S, h⟩ := w
  refine ⟨F, B, n, ds, S, (h.bind fun F1 H1 F2 H2 v d G r => r.tr G).mono fun v H1 ⟨F1, n1, d, G, S1, ⟨A, r, f⟩, h1⟩ => ?_⟩
  obtain ⟨d', e1, q⟩ := h1.retE
  by_cases hf : flat d = true
  · rw [if_pos hf] at e1
    cases e1
    exact q v F1 H1 (GoC.refl S1.fh) S1 ⟨fun _ => False, r.flat_any hf _ _ _, Fr.no⟩
  · rw [if_neg hf] at e1; cases e1
theorem vf_op {op : Operator} {ma mc : M} {r : R2} {o : D → D → Option D} (hr : OpR X (binaryOp op) r) (ho : OpS C.K r o) (ha : PEf N X a (W C wx .bo 0 ma)) (hb : PEf N X b (W C wx .bo 0 mc)) : PEf N X (.BinOp a op b pos) (W C wx g k (m2 ma mc o)) :=
  (pef_op hr ha hb).wk fun σ H Q w => tOp_of ho w
theorem vf_cmp {op : CmpOp} {ma mc : M} {r : R2} {o : D → D → Option D} (hr : OpR X (compareOp op) r) (ho : OpS C.K r o) (ha : PEf N X a (W C wx .bo 0 ma)) (hb : PEf N X b (W C wx .bo 0 mc)) (hm : behindInMarks op b = false) : PEf N X (.Compare a [op] [b] pos) (W C wx g k (m2 ma mc o)) :=
  (pef_cmpR hr ha hb hm).wk fun σ H Q w => tOp_of ho w
theorem vtf_val (h : PEf N X e (W C wx .bo 0 m)) (he : ∀ whole, isTrue e X.env whole = (do let v ← whole; standAt e.pos; holding [v] (truthy v)) := by intro _; rfl) : PTf N X e (WT C wx (mTest m)) :=
  (ptf_val h he).wk fun σ H Q w => tB_of (t := W C wx .bo 0 m) (fun _ _ _ z => z) w
theorem vtf_cmp {op : CmpOp} {r : R2} {o : D → D → Option D} (hr : OpR X (compareOp op) r) (ho : OpS C.K r o) (ha : PEf N X a (W C wx .bo 0 ma)) (hb : PEf N X b (W C wx .bo 0 mc)) (hm : behindInMarks op b = false) : PTf N X (.Compare a [op] [b] pos) (WT C wx (mTest (m2 ma mc o))) :=
  (ptf_cmpR hr ha hb hm).wk fun σ H Q w => tB_of (t := tOp r _ _) (fun _ _ _ z => tOp_of ho z) w
theorem vtf_not (h : PTf N X a (WT C wx ta)) : PTf N X (.UnaryOp .Not a pos) (WT C wx (mNot ta)) := by
  refine (ptf_not h).wk fun σ H Q w => ?_
  obtain ⟨F, B, n, ds, S, h⟩ := w
  refine ⟨F, B, n, ds, S, (h.bind fun F1 H1 F2 H2 v d G r => r).mono fun x H1 ⟨F1, n1, d, G1, S1, r1, h1⟩ => ?_⟩
  obtain ⟨b, e, q⟩ := h1.retE
  cases e
  have r1 : x = d := r1
  subst r1
  exact q _ F1 H1 (GoC.refl S1.fh) S1 rfl
theorem vwf_one_and (h : PTf N X a (WT C wx ta)) : PWf N X (.BoolOp .And [a] pos) (WT C wx ta) := pwf_and1 h
theorem vwf_one_or (h : PTf N X a (WT C wx ta)) : PWf N X (.BoolOp .Or [a] pos) (WT C wx ta) := pwf_or1 h
theorem vwf_and {rest : List Expr} (ha : PTf N X a (WT C wx ta)) (hb : PWf N X (.BoolOp .And (b :: rest) pos) (WT C wx tc)) : PWf N X (.BoolOp .And (a :: b :: rest) pos) (WT C wx (mAnd ta tc)) := by
  refine (pwf_and ha hb).wk fun σ H Q w => ?_
  obtain ⟨F, B, n, ds, S, h⟩ := w
  refine ⟨F, B, n, ds, S, (h.bind fun F1 H1 F2 H2 v d G r => r).mono fun x H1 ⟨F1, n1, d, G1, S1, r1, h1⟩ => ?_⟩
  have r1 : x = d := r1
  subst r1
  cases x with
  | true => rw [if_pos rfl]; exact ⟨F1, B, n1, ds, S1, h1⟩
  | false =>
    rw [if_neg Bool.false_ne_true]
    obtain ⟨b, e, q⟩ := h1.retE
    cases e
    exact q _ F1 H1 (GoC.refl S1.fh) S1 rfl
theorem vwf_or {rest : List Expr} (ha : PTf N X a (WT C wx ta)) (hb : PWf N X (.BoolOp .Or (b :: rest) pos) (WT C wx tc)) : PWf N X (.BoolOp .Or (a :: b :: rest) pos) (WT C wx (mOr ta tc)) := by
  refine (pwf_or ha hb).wk fun σ H Q w => ?_
  obtain ⟨F, B, n, ds, S, h⟩ := w
  refine ⟨F, B, n, ds, S, (h.bind fun F1 H1 F2 H2 v d G r => r).mono fun x H1 ⟨F1, n1, d, G1, S1, r1, h1⟩ => ?_⟩
  have r1 : x = d := r1
  subst r1
  cases x with
  | false => rw [if_neg Bool.false_ne_true]; exact ⟨F1, B, n1, ds, S1, h1⟩
  | true =>
    rw [if_pos rfl]
    obtain ⟨b, e, q⟩ := h1.retE
    cases e
    exact q _ F1 H1 (GoC.refl S1.fh) S1 rfl
theorem vf_fld {C0 : Addr} {f : Str} (hc : Cls C.K C0) (hn : NoAttr C.K C0 f) (ha : PEf N X a (W C wx g 0 ma)) (hb : attributeBase a f X.env (eval a X.env) = eval a X.env := by rfl) (hK : X.K = C.K := by rfl) : PEf N X (.Attribute a f pos) (W C wx g 0 (m1 ma (oFld C0 f))) := by
  refine (pef_fld ha hb).wk fun σ H Q w => ?_
  obtain ⟨F, B, n, ds, S, h⟩ := w
  refine ⟨F, B, n, ds, S, (h.bind fun F1 H1 F2 H2 v d G r => r.tr G).mono fun x H1 ⟨F1, n1, da, G1, S1, ⟨A1, r1, f1⟩, h1⟩ => ?_⟩
  obtain ⟨d, e, q⟩ := h1.retE
  cases r1 with
  | obj hh l c =>
    simp only [oFld] at e
    split at e
    · rename_i hC
      subst hC
      obtain ⟨j, v, h2, h3, h4⟩ := lookup_pair l e
      rw [hK]
      exact ⟨_, _, _, _, v, rfl, rg_same S1.fh _ _ hh, hc, hn, h2, q v F1 H1 (GoC.refl S1.fh) S1 (RV_of0 (c j v d h3 h4).z)⟩
    · cases e
  | _ => cases e
theorem vf_ix (ha : PEf N X a (W C wx g 0 ma)) (hb : PEf N X b (W C wx .bo 0 mc)) (hs : PlainIx b := by intro _ _; rfl) (hK : X.K = C.K := by rfl) : PEf N X (.Subscript a b pos) (W C wx g 0 (m2 ma mc oIx)) :=
  (pef_ix (by rw [← hK]; exact ix_seq) ha hb hs).wk fun σ H Q w => tOpG_of og_ix w
theorem vaf_cons {ms : Mo (List D)} (ha : PEf N X e (W C wx g 0 m)) (hr : PAf N X es (WA C wx g ms)) (hs : starEach (e :: es) X.env = (false, eval e X.env) :: starEach es X.env := by rfl) : PAf N X (e :: es) (WA C wx g (mCons m ms)) := by
  refine (paf_cons ha hr hs).wk fun σ H Q w => ?_
  obtain ⟨F, B, n, ds, S, h⟩ := w
  refine ⟨F, B, n, ds, S, (h.bind fun F1 H1 F2 H2 v d G r => r).mono fun x H1 ⟨F1, n1, d, G1, S1, ⟨A1, r1, f1⟩, h1⟩ => ?_⟩
  refine ⟨F1, B, n1, ds, S1, (h1.bind fun F1 H1 F2 H2 v d G r => r).mono fun xs H2 ⟨F2, n2, d2, G2, S2, r2, h2⟩ => ?_⟩
  obtain ⟨d3, e3, q⟩ := h2.retE
  cases e3
  exact q (x :: xs) F2 H2 (GoC.refl S2.fh) S2 (RpL.cons (r1.go0 (A' := fun _ => False) G2) r2)
theorem vcf_all {g : Rg} (h : PAf N X es (WA C wx g ms)) : PAf N X es (WAc C wx g none ms) := by
  refine h.wk fun σ H Q w => ?_
  obtain ⟨F, B, n, ds, S, h⟩ := w
  refine ⟨F, B, n, ds, S, ?_⟩
  unfold WL at h ⊢
  cases e : ms n ds with
  | none => rw [e] at h; exact h
  | some p =>
    rw [e] at h
    obtain ⟨o, n'⟩ := p
    cases o with
    | ex c fs => exact h
    | ok d => exact fun v F' H' G S r => h v F' H' G S ⟨r.1, fun i v d _ a b => r.2 i v d a b, fun i hi => by cases hi⟩
theorem vcf_cons {m : M} {ci : Option Nat} (ha : PEf N X e (W C wx g 0 m)) (hr : PAf N X es (WAc C wx g ci ms)) (hs : starEach (e :: es) X.env = (false, eval e X.env) :: starEach es X.env := by rfl) : PAf N X (e :: es) (WAc C wx g (ci.map (· + 1)) (mCons m ms)) := by
  refine (paf_cons ha hr hs).wk fun σ H Q w => ?_
  obtain ⟨F, B, n, ds, S, h⟩ := w
  refine ⟨F, B, n, ds, S, (h.bind fun F1 H1 F2 H2 v d G r => r).mono fun x H1 ⟨F1, n1, d, G1, S1, ⟨A1, r1, f1⟩, h1⟩ => ?_⟩
  refine ⟨F1, B, n1, ds, S1, (h1.bind fun F1 H1 F2 H2 v d G r => r).mono fun xs H2 ⟨F2, n2, d2, G2, S2, r2, h2⟩ => ?_⟩
  obtain ⟨d3, e3, q⟩ := h2.retE
  cases e3
  refine q (x :: xs) F2 H2 (GoC.refl S2.fh) S2 ⟨by simp [r2.1], fun i v' d' hi h1 h2 => ?_, fun i hi => ?_⟩
  · cases i with
    | zero =>
      simp only [List.getElem?_cons_zero, Option.some.injEq] at h1 h2
      subst h1 h2
      exact Rp.go0 r1 G2
    | succ i =>
      refine r2.2.1 i v' d' (fun z => hi ?_) (by simpa using h1) (by simpa using h2)
      rw [z]; rfl
  · cases ci with
    | none => cases hi
    | some j =>
      cases hi
      obtain ⟨q, h1, h2⟩ := r2.2.2 j rfl
      exact ⟨q, h1, by simpa using h2⟩
theorem vf_list (hm : X.mg "list" = none) (ha : PAf N X [e] (WA C wx .fz ms)) (hg : Gl X "list" := by rfl)
    (hs : starEach [e] X.env = (false, eval e X.env) :: starEach [] X.env := by rfl) (hpl : (backTo pos (starEach [] X.env)).any (·.1) = false := by rfl) (hK : X.K = C.K := by rfl) : PEf N X (.Call (.Name "list" p) [e] [] pos) (W C wx .fz 1 (mCB ms oList)) := by
  refine (pef_callTy call_list_of hg hm PyProof.Rows.boot_list ha (by decide) (by decide) hs hpl).wk fun σ H Q w => ?_
  obtain ⟨F, B, n, ds, S, h⟩ := w
  refine ⟨F, B, n, ds, S, (h.bind fun F1 H1 F2 H2 v d G r => r.tr G).mono fun xs H1 ⟨F1, n1, da, G1, S1, r1, h1⟩ => ?_⟩
  obtain ⟨d, e, q⟩ := h1.retE
  unfold oList at e
  split at e
  · cases e
    obtain ⟨v, rfl, r⟩ := r1.one
    cases r with
    | lst hh l c =>
      rw [hK]
      refine ⟨_, _, rfl, .inl (sqL_mono hh S1.fh), fun p hp => ?_⟩
      obtain ⟨G2, S2⟩ := S1.newO (o := .lst _) hp
      exact q (.ref p) F1 _ G2 S2 ⟨fun a => a = p, .lstO (fun _ _ => False) upd_same rfl l (fun i v d a b => Rp.go0 (g := .fz) (c i v d a b) G2) (fun _ _ h => h.elim) (fun _ _ _ h => h.elim), Fr.one S1.fh hp rfl⟩
  · cases e
    obtain ⟨v, rfl, r⟩ := r1.one
    cases r with
    | tup hh l c =>
      rw [hK]
      refine ⟨_, _, rfl, .inr hh, fun p hp => ?_⟩
      obtain ⟨G2, S2⟩ := S1.newO (o := .lst _) hp
      exact q (.ref p) F1 _ G2 S2 ⟨fun a => a = p, .lstO (fun _ _ => False) upd_same rfl l (fun i v d a b => Rp.go0 (g := .fz) (c i v d a b) G2) (fun _ _ h => h.elim) (fun _ _ _ h => h.elim), Fr.one S1.fh hp rfl⟩
  · cases e
theorem vf_call (F : FnF N X.prog X.w X.K X.mg X.base (L2.CX X.prog X.w) kk f fd ps (spM C.K ci np kr fm)) (hp : ci = none → ∃ f, fm = pureF f) (hr : Room kk X.A) (hm : X.mg x = some (.ref f)) (hk : PySem.W.keepIn X.K (.ref f) = true) (hb : Binds X.K fd ps []) (tk : Takes X wx)
    (ha : PAf N X (e :: es) (WAc C wx .fz ci ms)) (hlen : ∀ n ds d n', ms n ds = some (.ok d, n') → d.length = np) (hg : Gl X x := by rfl) (hdb : (x == ("__debug__" : Str)) = false := by decide) (he : starEach (e :: es) X.env = (false, eval e X.env) :: starEach es X.env := by rfl) (hpl : (backTo pos (starEach es X.env)).any (·.1) = false := by rfl) :
    PEf N X (.Call (.Name x p) (e :: es) [] pos) (W C wx .fz kr (mCall fm ms)) := by
  refine (pef_callS F hr hg hm hk hb (fun σ => passAt tk σ) ha hdb he hpl).wk fun σ H Q w => ?_
  obtain ⟨F, B, n, ds, S, h⟩ := w
  refine ⟨F, B, n, ds, S, WL.strong hlen ((h.bind (R := fun H F' H' vs as => RAc C .fz ci H F' H' vs as ∧ as.length = np) fun F1 H1 F2 H2 v d G r => r.tr G).mono fun vs H1 ⟨F2, n2, d2, G2, S2, ⟨r2, hl⟩, h2⟩ => ?_)⟩
  exact spM_of (RR := RV C .fz kr) hp S2 r2 hl (fun d v F' H' G r _ => r) (fun _ _ _ _ h => by cases h) h2
theorem vf_callA (F : AvF N X.prog X.w X.K X.mg X.base x ps kk (spM C.K ci np kr fm)) (hp : ci = none → ∃ f, fm = pureF f) (hr : Room kk X.A) (tk : Takes X wx)
    (ha : PAf N X (e :: es) (WAc C wx .fz ci ms)) (hlen : LenM ms np) (hg : Gl X x := by rfl) (hdb : (x == ("__debug__" : Str)) = false := by decide) (he : starEach (e :: es) X.env = (false, eval e X.env) :: starEach es X.env := by rfl) (hpl : (backTo pos (starEach es X.env)).any (·.1) = false := by rfl) :
    PEf N X (.Call (.Name x p) (e :: es) [] pos) (W C wx .fz kr (mCall fm ms)) := by
  obtain ⟨f, fd, h1, h2, h3, h4⟩ := F.ex
  exact vf_call h4 hp hr h1 h2 h3 tk ha hlen hg hdb he hpl
theorem wf_set {i : Nat} {x : Str} {e : Expr} {p' : Pos} {m : M} {k : Nat} (he : PEf N X e (W C wx .fz k m)) (hT : C.T i = k) (hp : C.pn i = none) (hN : X.N.Nodup) (hi : X.N[i]? = some x := by rfl) (hx : Loc X.env.scope x := by first | exact Or.inl rfl | exact Or.inr rfl) (hs : swapsWith e (some (.Name x p')) pos.line X.env = pure false := by rfl) (hf : X.fn x = true ∨ X.env.scope.names.lookup x = some .local := by first | exact .inl rfl | exact .inr rfl | assumption) :
    PSf N X (.Assign [.Name x p'] e pos) (WS C wx kr (sSet i m)) := (psf_set hN hi hx he hs hf).wk fun E σ H w => by
  obtain ⟨F, B, n, ds, S, h⟩ := w
  refine ⟨F, B, n, ds, S, (wsl_e (R := RV C .fz k) S h).mono fun v H1 ⟨F1, n1, d, G1, S1, ⟨A, r, f⟩, h1⟩ => ?_⟩
  obtain ⟨f1, f2⟩ := fresh_ok S f
  have S2 := S1.set (H0 := H) (by rw [hT]; exact r) f1 hp f2
  exact h1 _ F1 _ H1 (goS_new S G1 f) S2
theorem wf_asg {t e : Expr} {tg : Tg} {m : M} (he : PEf N X e (W C wx .fz 0 m)) (hg : PG X t (GT C tg)) (hs : swapsWithSole [t] e pos.line X.env = pure false := by rfl) (hw : swappedStores [t] e X.env = pure none := by rfl) (h1 : (assignEach [t] X.env).map (·.2) = [assign t X.env] := by rfl) : PSf N X (.Assign [t] e pos) (WS C wx kr (sAsg tg m)) := (psf_asg he hg hs hw h1).wk fun E σ H w => by
  obtain ⟨F, B, n, ds, S, h⟩ := w
  refine ⟨F, B, n, ds, S, (wsl_e (R := RV C .fz 0) S h).mono fun v H1 ⟨F1, n1, d, G1, S1, ⟨A, r1, f⟩, h4⟩ => ?_⟩
  cases e : tg.bind d ds with
  | none => unfold WSL at h4; simp only [e] at h4
  | some ds' =>
    unfold WSL at h4
    simp only [e] at h4
    exact ⟨F1, B, n1, ds, d, ds', S1, r1.z, e, fun σ' S' _ _ => h4 σ' F1 B H1 (G1.toS S.qB) S'⟩
theorem wf_expr {e : Expr} {m : M} {g : Rg} {k : Nat} (he : PEf N X e (W C wx g k m)) (hs : swapsWith e none pos.line X.env = pure false := by rfl) : PSf N X (.Expr e pos) (WS C wx kr (sDrop m)) := (psf_expr he hs).wk fun E σ H w => by
  obtain ⟨F, B, n, ds, S, h⟩ := w
  refine ⟨F, B, n, ds, S, (wsl_e (R := RV C g k) S h).mono fun v H1 ⟨F1, n1, d, G1, S1, ⟨A, r1, f⟩, h4⟩ => ?_⟩
  exact h4 _ F1 B H1 (G1.toS S.qB) S1
theorem wf_ret {e : Expr} {m : M} (he : PEf N X e (W C.stand wx .fz kr m)) (hs : kr = kr := by rfl) : PSf N X (.Return (some e) pos) (WS C wx kr (sRet m)) := (psf_ret he).wk fun E σ H w => by
  obtain ⟨F, B, n, ds, S, h⟩ := w
  obtain ⟨F0, G0, S0⟩ := S.stand
  refine ⟨F0, fun a => C.q = some a, n, ds, S0, ?_⟩
  unfold WSL at h
  unfold WL
  cases e : m n ds with
  | none => simp only [sRet, sE, e] at h
  | some p =>
    obtain ⟨o, n'⟩ := p
    cases o with
    | ok d =>
      simp only [sRet, sE, e] at h
      rintro v F' H' G S' ⟨A, r, f⟩
      refine h v (fun a => C.q = some a) F' H' A (G0.trans (G.toS fun _ z => z)) (fun q hq => ⟨(S'.cell q hq).2, (S'.bok q hq).1⟩) r fun a ha => ?_
      exact ⟨.inr (f a ha).1, (f a ha).2.1, fun z => S.nq z (f a ha).1, (f a ha).2.2⟩
    | ex c fs =>
      simp only [sRet, sE, e] at h
      intro F' H' od G S' x
      have G1 : GoC C.q F H F H' := ⟨⟨Same.refl _, fun a o e => G.go.hh a o (S.fh a o e) fun z => by
        have q := (S.bok a (S.cell a z).1).1
        rw [q] at e; exact absurd e (by simp), G.go.hh, G.go.ht, fun a o n _ => n⟩, G.dm⟩
      exact h σ F B H' od (G1.toS S.qB) (S.go G1 fun q hq => (S'.cell q hq).2) x
end
section
variable {N : Nat} {X : Cx} {C : Ctx} {wx : WX} {kr k : Nat} {e tg : Expr} {es : List Expr} {p pos : Pos} {st : Stmt} {sts : List Stmt} {ma mc : MS}
theorem wf_if {c : Expr} {sa sb : List Stmt} {t : Mo Bool} (hc : PTf N X c (WT C wx t)) (ha : PSsf N X sa (WS C wx kr ma)) (hb : PSsf N X sb (WS C wx kr mc)) : PSf N X (.If c sa sb pos) (WS C wx kr (sIf t ma mc)) := (psf_if hc ha hb).wk fun E σ H w => by
  obtain ⟨F, B, n, ds, S, h⟩ := w
  refine ⟨F, B, n, ds, S, (wsl_e (R := RT) S h).mono fun b H1 ⟨F1, n1, d, G1, S1, r1, h1⟩ => ?_⟩
  have r1 : b = d := r1
  subst r1
  cases b with
  | true => rw [if_pos rfl]; exact ⟨F1, B, n1, ds, S1, h1.tr (G1.toS S.qB) rfl⟩
  | false => rw [if_neg Bool.false_ne_true]; exact ⟨F1, B, n1, ds, S1, h1.tr (G1.toS S.qB) rfl⟩
theorem wf_for {iter : Expr} {body : List Stmt} {mi : Mo (List D)} {t : Tg} {mbody : MS} (hp : PassesOwn (model X.prog X.w) X.A X.env X.xe) (hi : PI X tg iter (WI C wx mi)) (hg : PG X tg (GT C t)) (hb : PSsf N X body (WS C wx kr mbody)) (hc : X.calm = true := by rfl)
    (hs : ∀ x, foldedSetIterable iter X.env x = pure x := by intro _; rfl) : PSf N X (.For tg iter body [] pos) (WS C wx kr (sFor mi t mbody)) := (psf_for hp hc hi hg hb hs).wk fun E σ H w => by
  obtain ⟨F, B, n, ds, S, h⟩ := w
  refine ⟨F, B, n, ds, S, (wsl_e S h).mono fun J H1 ⟨F1, n1, as, G1, S1, y, h1⟩ => ?_⟩
  refine ⟨fun i m σi Hi => m + i = as.length ∧ ∃ Fi Bi ni dsi, GoS B F H Bi Fi Hi ∧ Later F1 H1 Fi Hi ∧ Sim C Fi Bi σi Hi ni dsi ∧ WSL C wx kr (forL t mbody (as.drop i)) F B ni dsi H E, ⟨as.length, rfl, F1, B, n1, ds, G1.toS S.qB, Later.refl S1.fh, S1, by rw [List.drop_zero]; exact h1⟩, ?_⟩
  rintro i m σi Hi ⟨hm, Fi, Bi, ni, dsi, Gi, Li, Si, hi⟩
  cases hd : as[i]? with
  | none =>
    have hlen := List.getElem?_eq_none_iff.mp hd
    left
    refine ⟨(y Fi Hi Li i).2 (by have := List.getElem?_eq_none_iff.mp hd; omega), ?_⟩
    rw [List.drop_eq_nil_of_le hlen] at hi
    exact hi σi Fi Bi Hi Gi Si
  | some d =>
    have hlt := (List.getElem?_eq_some_iff.mp hd).1
    right
    obtain ⟨hgo, hy⟩ := (y Fi Hi Li i).1 d hd
    refine ⟨hgo, fun σ' H' => (m - 1) + (i + 1) = as.length ∧ ∃ Fi Bi ni dsi, GoS B F H Bi Fi H' ∧ Later F1 H1 Fi H' ∧ Sim C Fi Bi σ' H' ni dsi ∧ WSL C wx kr (forL t mbody (as.drop (i + 1))) F B ni dsi H E, fun σ' H' hn => ⟨m - 1, by omega, hn⟩, fun x H' hx => ?_⟩
    obtain ⟨hH, rx⟩ := hy x H' hx
    obtain ⟨G2, S2⟩ := Si.yld hH
    have hdrop : as.drop i = d :: as.drop (i + 1) := by
      rw [List.drop_eq_getElem_cons hlt]
      rw [(List.getElem?_eq_some_iff.mp hd).2]
    rw [hdrop] at hi
    cases hbd : t.bind d dsi with
    | none => unfold WSL at hi; simp only [forL, hbd] at hi
    | some ds1 =>
      refine ⟨Fi, Bi, ni, dsi, d, ds1, S2, rx, hbd, fun σ2 S3 _ _ => ?_⟩
      refine ⟨Fi, Bi, ni, ds1, S3, ?_⟩
      have Gn : GoS B F H Bi Fi H' := Gi.trans (G2.toS Si.qB)
      have Ln : Later F1 H1 Fi H' := Li.trans G2.later
      have hi0 := hi
      unfold WSL at hi ⊢
      cases eb : mbody ni ds1 with
      | none => simp only [forL, hbd, eb] at hi
      | some pp =>
        obtain ⟨fl, n', ds'⟩ := pp
        cases fl with
        | nx => exact fun σ' F' B' H'' G3 S4 => ⟨by omega, F', B', n', ds', Gn.trans G3, Ln.trans G3.later, S4, WSL.tr (GoS.refl S.fh) (by simp only [forL, hbd, eb]) hi0⟩
        | ct => exact fun σ' F' B' H'' G3 S4 => ⟨by omega, F', B', n', ds', Gn.trans G3, Ln.trans G3.later, S4, WSL.tr (GoS.refl S.fh) (by simp only [forL, hbd, eb]) hi0⟩
        | bk =>
          simp only [forL, hbd, eb] at hi
          exact fun σ' F' B' H'' G3 S4 => hi σ' F' B' H'' (Gn.trans G3) S4
        | rt d =>
          simp only [forL, hbd, eb] at hi
          exact RtP.tr Gn hi
        | ex c fs =>
          simp only [forL, hbd, eb] at hi
          exact fun σ' F' B' H'' od G3 S4 x => hi σ' F' B' H'' od (Gn.trans G3) S4 (x.trS Gn)
theorem wf_whileK {c : Expr} {body : List Stmt} {t : Mo Bool} {mbody : MS} (fuel : Nat) (hp : PassesOwn (model X.prog X.w) X.A X.env X.xe) (hc : PTf N X c (WT C wx t)) (hb : PSsf N X body (WS C wx kr mbody)) : PSf N X (.While c body [] pos) (WS C wx kr (whileL t mbody fuel)) := (psf_while hp hc hb).wk fun E σ H w => by
  obtain ⟨F, B, n, ds, S, h⟩ := w
  refine ⟨fun m σi Hi => ∃ Fi Bi ni dsi, GoS B F H Bi Fi Hi ∧ Sim C Fi Bi σi Hi ni dsi ∧ WSL C wx kr (whileL t mbody m) F B ni dsi H E, ⟨fuel, F, B, n, ds, GoS.refl S.fh, S, h⟩, ?_⟩
  rintro m σi Hi ⟨Fi, Bi, ni, dsi, Gi, Si, hi⟩
  cases m with
  | zero => exact hi.elim
  | succ m =>
    refine ⟨Fi, Bi, ni, dsi, Si, (wsl_e0 (R := RT) Gi Si hi).mono fun b H1 ⟨F1, n1, d, G1, S1, r1, h1⟩ => ?_⟩
    have r1 : b = d := r1
    subst r1
    have Gn : GoS B F H Bi F1 H1 := Gi.trans (G1.toS Si.qB)
    cases b with
    | false =>
      rw [if_neg Bool.false_ne_true]
      exact h1 σi F1 Bi H1 Gn S1
    | true =>
      rw [if_pos rfl]
      refine ⟨fun σ' H' => ∃ Fi Bi ni dsi, GoS B F H Bi Fi H' ∧ Sim C Fi Bi σ' H' ni dsi ∧ WSL C wx kr (whileL t mbody m) F B ni dsi H E, fun σ' H' hn => ⟨m, Nat.lt_succ_self m, hn⟩, F1, Bi, n1, dsi, S1, ?_⟩
      have h1' := h1
      unfold WSL at h1 ⊢
      cases eb : mbody n1 dsi with
      | none => simp only [eb] at h1
      | some pp =>
        obtain ⟨fl, n', ds'⟩ := pp
        cases fl with
        | nx => exact fun σ' F' B' H'' G3 S4 => ⟨F', B', n', ds', Gn.trans G3, S4, WSL.tr (GoS.refl S.fh) (by simp only [eb]) h1'⟩
        | ct => exact fun σ' F' B' H'' G3 S4 => ⟨F', B', n', ds', Gn.trans G3, S4, WSL.tr (GoS.refl S.fh) (by simp only [eb]) h1'⟩
        | bk =>
          simp only [eb] at h1
          exact fun σ' F' B' H'' G3 S4 => h1 σ' F' B' H'' (Gn.trans G3) S4
        | rt d =>
          simp only [eb] at h1
          exact RtP.tr Gn h1
        | ex c fs =>
          simp only [eb] at h1
          exact fun σ' F' B' H'' od G3 S4 x => h1 σ' F' B' H'' od (Gn.trans G3) S4 (x.trS Gn)
theorem wf_while {c : Expr} {body : List Stmt} {t : Mo Bool} {mbody : MS} (hp : PassesOwn (model X.prog X.w) X.A X.env X.xe) (hc : PTf N X c (WT C wx t)) (hb : PSsf N X body (WS C wx kr mbody)) : PSf N X (.While c body [] pos) (WS C wx kr (sWhile t mbody)) := wf_whileK FUEL hp hc hb
theorem wf_cons (h1 : PSf N X st (WS C wx kr ma)) (h2 : PSsf N X sts (WS C wx kr mc)) : PSsf N X (st :: sts) (WS C wx kr (sSeq ma mc)) := (pssf_cons h1 h2).wk fun E σ H w => by
  obtain ⟨F, B, n, ds, S, h⟩ := w
  exact ⟨F, B, n, ds, S, wsl_seq h⟩
theorem wf_one (h1 : PSf N X st (WS C wx kr ma)) : PSsf N X [st] (WS C wx kr ma) := pssf_one h1
end
section
variable {N : Nat} {X : Cx} {C : Ctx} {wx : WX} {kr k : Nat} {e : Expr} {pos : Pos} {m : MS}
theorem wf_newCell {i : Nat} {x : Str} {p' lpos : Pos} {j : Nat} {c : Int} {cp : Pos} {sts : List Stmt} (hq : C.q = none) (hp : ∀ j, C.pn j = none) (hN : X.N.Nodup) (hr : ∀ a, PSsf N X sts (WS (C.cellAt i a) wx kr m)) (hi : X.N[i]? = some x := by rfl) (hx : Loc X.env.scope x := by first | exact Or.inl rfl | exact Or.inr rfl)
    (hs : swapsWith (.List [.Constant (.int c) j cp] lpos) (some (.Name x p')) pos.line X.env = pure false := by rfl) (hf : X.fn x = true ∨ X.env.scope.names.lookup x = some .local := by first | exact .inl rfl | exact .inr rfl | assumption)
    (hst : starEach [.Constant (.int c) j cp] X.env = (false, eval (.Constant (.int c) j cp) X.env) :: starEach [] X.env := by rfl) :
    PSsf N X (.Assign [.Name x p'] (.List [.Constant (.int c) j cp] lpos) pos :: sts) (WS C wx kr (sNewCell i c m)) := by
  have hall : PSsf N X sts (fun E σ H => ∃ a, WS (C.cellAt i a) wx kr m E σ H) := fun pins s σ H E hn I h => by
    obtain ⟨a, h⟩ := h
    exact hr a pins s σ H E hn I h
  refine (pssf_cons (.of (ps_set hN hi hx (pe_lst (pa_cons pe_int pa_nil hst)) hs hf)) hall).wk fun E σ H w => ?_
  obtain ⟨F, B, n, ds, S, h⟩ := w
  have hlt : i < ds.length := by
    by_cases hl : i < ds.length
    · exact hl
    · unfold WSL sNewCell at h; simp only [if_neg hl] at h
  refine ⟨by show 1 ≤ sizeLine; decide, fun p hpn => ⟨p, F, fun a => B a ∨ a = p, c, ds.set i none, ?_, ?_⟩⟩
  · have hFp : F p = none := none_some (fun a o e => ⟨o, S.fh a o e⟩) hpn
    have hup : ∀ a o, H a = some o → upd H p (.lst [.int c]) a = some o := fun a o e => by rw [upd_ne (ne_of_none e hpn)]; exact e
    refine ⟨fun a o e => hup a o (S.fh a o e), fun a ha => ?_, fun q e => ?_, fun j' v h' => ?_, ?_, ?_⟩
    · rcases ha with ha | ha
      · obtain ⟨z1, o, z2, z3⟩ := S.bok a ha
        exact ⟨z1, o, hup a o z2, z3⟩
      · subst ha; exact ⟨hFp, _, upd_same, rfl⟩
    · cases e
      exact ⟨.inr rfl, upd_same⟩
    · have h' : (if j' = i then some (V.ref p) else none) = some v := h'
      by_cases hj : j' = i
      · subst hj
        rw [if_pos rfl] at h'
        cases h'
        refine List.getElem?_set_self ?_
        rw [S.len]; exact hlt
      · rw [if_neg hj] at h'; cases h'
    · rw [List.length_set, List.length_set]; exact S.len
    · obtain ⟨A, h1, h2, h3⟩ := S.rep
      refine ⟨A, fun j' d e => ?_, fun j' a ha => ⟨.inl (h2 j' a ha).1, fun z => ?_⟩, h3⟩
      · by_cases hj : i = j'
        · subst hj
          by_cases hl : i < ds.length
          · rw [List.getElem?_set_self hl] at e; cases e
          · rw [List.getElem?_eq_none (by simpa using hl)] at e; cases e
        · rw [List.getElem?_set_ne hj] at e
          obtain ⟨v, e1, r⟩ := h1 j' d e
          exact ⟨v, by rw [List.getElem?_set_ne hj]; exact e1, r.mono (Same.refl _) (fun a o e _ => hup a o e) fun a o _ e => hup a o e⟩
      · cases z
        obtain ⟨_, o, z2, _⟩ := S.bok p (h2 j' p ha).1
        rw [hpn] at z2; cases z2
  · have G : GoS B F H (fun a => B a ∨ a = p) F (upd H p (.lst [.int c])) := by
      have g := (GoC.newO (q := none) (o := .lst [.int c]) S.fh hpn).toS (B := B) (fun _ h => by cases h)
      exact ⟨g.ff, g.fh, g.hh, g.ht, g.nf, fun a ha => ha.elim .inl fun z => .inr (by rw [z]; exact hpn), g.dm⟩
    unfold WSL sNewCell at h
    simp only [if_pos hlt] at h
    unfold WSL
    cases e : m c (ds.set i none) with
    | none => simp only [e] at h
    | some pp =>
      obtain ⟨fl, n', ds'⟩ := pp
      cases fl with
      | nx => simp only [e] at h; exact fun σ' F' B' H' G2 S2 => h σ' F' B' H' (G.trans G2) (S2.uncell hq hp)
      | bk => simp only [e] at h
      | ct => simp only [e] at h
      | rt d =>
        simp only [e] at h
        exact RtP.tr G (fun v B' F' H' A G2 _ r f => h v B' F' H' A G2 (fun q z => by rw [hq] at z; cases z) r fun a ha => ⟨(f a ha).1, (f a ha).2.1, by rw [hq]; simp, (f a ha).2.2.2⟩)
      | ex c fs => simp only [e] at h; exact fun σ' F' B' H' od G2 S2 x => h σ' F' B' H' od (G.trans G2) (S2.uncell hq hp) (x.trS G)
end
section
variable {P : Program} {w : World} {K : PySem.W.Frag} {mg : Str → Option Value} {base : Heap}
theorem def_ok0F {x qual : Str} {params : Arguments} {body : List Stmt} {scope : Scope} {dvs : List V} {kws : List (Str × V)} {f : Addr} {fd : FuncData} {NN : Nat} {N ps : List Str} {k kr : Nat} {T : Nat → Nat} {ms : MS} (Fu : FunD K x qual params body scope dvs kws f fd) (S : FnScope N ps scope) (hT : ∀ i, i < ps.length → T i = 0)
    (hb : ∀ (cdv : Value) (A : Around) (outer : List Env) (s : Shared) (H : Hp) (E : XK), Room k (A.deeper (envOfC qual scope s.heap.objs.size f cdv)) →
      PSsf NN (cxOf (L2.CX P w) P w K mg base N qual scope f cdv A outer s H E) body (WS ⟨K, none, T, fun _ => none⟩ (fun c d _ H => E c d H) kr ms)) :
    FnF NN P w K mg base (L2.CX P w) (k + 1) f fd ps (spM K none ps.length kr (pureF (fn0 N.length ms))) := by
  refine fn_ofF Fu S (fun vs H Q E h => h.1) (fun cdv A outer s H vs Q E hr h => ⟨_, hb cdv A outer s H E hr, ?_⟩)
  obtain ⟨hlen, F, q, n, as, fh, hq, _, hl, hrep, hm⟩ := h
  have hq := hq rfl
  subst hq
  refine ⟨F, fun _ => False, 0, startD N.length as, sim_start (ci := none) fh hl hrep (fun i hi => hT i (by rw [← hlen]; exact hi)) (fun _ h => h.elim) (fun _ h => by cases h) (fun _ _ h => by cases h), ?_⟩
  have go : ∀ {B' : AS} {F' H' : Hp}, GoS (fun _ => False) F H B' F' H' → GoC none F H F' H' := fun G => ⟨⟨G.ff, G.fh, fun a o e _ => G.hh a o e fun z => z, G.ht, fun a o n e => G.nf a o n e fun z => z⟩, G.dm⟩
  unfold pureF fn0 at hm
  unfold WSL
  cases e : ms 0 (startD N.length as) with
  | none => simp only [e, outF, Option.map_none] at hm
  | some pp =>
    obtain ⟨fl, n', ds'⟩ := pp
    cases fl with
    | nx =>
      simp only [e, outF, Option.map_some] at hm
      exact fun σ' F' B' H' G _ => hm .non F' H' (go G) (fun _ h => by cases h) ⟨fun _ => False, .non, Fr.no⟩
    | bk => simp only [e, outF, Option.map_none] at hm
    | ct => simp only [e, outF, Option.map_none] at hm
    | rt d =>
      simp only [e, outF, Option.map_some] at hm
      exact fun v B' F' H' A G _ r f => hm v F' H' (go G) (fun _ h => by cases h) ⟨A, r, fun a ha => ⟨(f a ha).1.elim (fun z => z.elim) id, (f a ha).2.1, (f a ha).2.2.2⟩⟩
    | ex c fs =>
      simp only [e, outF, Option.map_some] at hm
      exact fun σ' F' B' H' od G _ xr => hm F' H' od (go G) (fun _ h => by cases h) xr
theorem def_okCF {x qual : Str} {params : Arguments} {body : List Stmt} {scope : Scope} {dvs : List V} {kws : List (Str × V)} {f : Addr} {fd : FuncData} {NN : Nat} {N ps : List Str} {k kr : Nat} {T : Nat → Nat} {ms : MS} (i : Nat) (hi : i < ps.length) (Fu : FunD K x qual params body scope dvs kws f fd) (S : FnScope N ps scope) (hT : ∀ i, i < ps.length → T i = 0)
    (hb : ∀ (cdv : Value) (A : Around) (outer : List Env) (s : Shared) (H : Hp) (E : XK) (a : Addr), Room k (A.deeper (envOfC qual scope s.heap.objs.size f cdv)) →
      PSsf NN (cxOf (L2.CX P w) P w K mg base N qual scope f cdv A outer s H E) body (WS ⟨K, some a, T, fun j => if j = i then some (.ref a) else none⟩ (fun c d _ H => E c d H) kr ms)) :
    FnF NN P w K mg base (L2.CX P w) (k + 1) f fd ps (spM K (some i) ps.length kr (fnC i N.length ms)) := by
  refine fn_ofF Fu S (fun vs H Q E h => h.1) (fun cdv A outer s H vs Q E hr h => ?_)
  obtain ⟨hlen, F, q, n, as, fh, _, hq, hl, hrep, hm⟩ := h
  obtain ⟨a, rfl, hva, hHa, hFa⟩ := hq i rfl
  refine ⟨_, hb cdv A outer s H E a hr, F, fun b => b = a, n, (startD N.length as).set i none, sim_start (ci := some i) fh hl hrep (fun i hi => hT i (by rw [← hlen]; exact hi)) (fun b hb => by subst hb; exact ⟨hFa, _, hHa, rfl⟩) (fun q hq => by cases hq; exact ⟨rfl, hHa⟩) (fun j v h => by
    by_cases hj : j = i
    · subst hj
      simp only [if_true, Option.some.injEq] at h
      subst h
      exact ⟨rfl, hva⟩
    · simp only [if_neg hj] at h; cases h), ?_⟩
  have go : ∀ {B' : AS} {F' H' : Hp}, GoS (fun b => b = a) F H B' F' H' → F' a = none → GoC (some a) F H F' H' := fun G hF' => ⟨⟨G.ff, G.fh, fun b o e hne => G.hh b o e fun z => hne (by rw [z]), G.ht, fun b o n e => by
    by_cases hba : b = a
    · rw [hba]; exact hF'
    · exact G.nf b o n e hba⟩, G.dm⟩
  unfold fnC at hm
  unfold WSL
  cases e : ms n ((startD N.length as).set i none) with
  | none => simp only [e, outF] at hm
  | some pp =>
    obtain ⟨fl, n', ds'⟩ := pp
    cases fl with
    | nx =>
      simp only [e, outF] at hm
      exact fun σ' F' B' H' G S' => hm .non F' H' (go G (S'.bok a (S'.cell a rfl).1).1) (fun q h => by cases h; exact (S'.cell a rfl).2) ⟨fun _ => False, .non, Fr.no⟩
    | bk => simp only [e, outF] at hm
    | ct => simp only [e, outF] at hm
    | rt d =>
      simp only [e, outF] at hm
      exact fun v B' F' H' A G hc r f => hm v F' H' (go G (hc a rfl).2) (fun q h => by cases h; exact (hc a rfl).1) ⟨A, r, fun b ha => ⟨(f b ha).1.elim (fun z => by
        exact absurd (by rw [z]) (f b ha).2.2.1) id, (f b ha).2.1, (f b ha).2.2.2⟩⟩
    | ex c fs =>
      simp only [e, outF] at hm
      exact fun σ' F' B' H' od G S' xr => hm F' H' od (go G (S'.bok a (S'.cell a rfl).1).1) (fun q h => by cases h; exact (S'.cell a rfl).2) xr
end
/-! ### text.replace of a module's text -/
structure TokG (N : Nat) (mg : Str → Option Value) (x y : Str) : Prop where
  ex : ∃ t, mg x = some (.str y t) ∧ t ≠ 0 ∧ t < N
section
variable {N : Nat} {X : Cx} {C : Ctx} {wx : WX} {g : Rg} {k : Nat} {o : Expr} {m : M} {pos : Pos}
def oReplG (y z : Str) : D → Option D
  | .str x => if x.length + (x.length + 1) * z.length ≤ 16777216 then some (.str (Txt.replace x y z)) else none
  | _ => none
theorem vf_replG {x y z : Str} {j : Nat} {p c1 apos : Pos} (T : TokG N X.mg x y) (ho : PEf N X o (W C wx g 0 m)) (hyz : (y == z) = false := by decide) (hg : Gl X x := by rfl) (hd : (x == ("__debug__" : Str)) = false := by decide)
    (hst : starEach [.Name x p, .Constant (.str z) j c1] X.env = [(false, eval (.Name x p) X.env), (false, eval (.Constant (.str z) j c1) X.env)] := by rfl)
    (hbase : attributeBase o "replace" X.env (eval o X.env) = eval o X.env := by rfl) (hline : (apos.endLine == pos.line) = true := by rfl) :
    PEf N X (.Call (.Attribute o "replace" apos) [.Name x p, .Constant (.str z) j c1] [] pos) (W C wx g k (m1 m (oReplG y z))) := by
  obtain ⟨t, hm, t0, tN⟩ := T.ex
  intro pins s σ H Q hn I w
  obtain ⟨F, B, n, ds, S, h⟩ := w
  have w2 : W C wx g 0 m σ H fun v H1 => ∃ a, v = .str a ∧ a.length + (a.length + 1) * z.length ≤ 16777216 ∧ Q (.str (Txt.replace a y z)) H1 := by
    refine ⟨F, B, n, ds, S, (h.bind fun F1 H1 F2 H2 v d G r => r.tr G).mono fun v H1 ⟨F1, n1, d, G1, S1, ⟨A1, r1, f1⟩, h1⟩ => ?_⟩
    obtain ⟨d2, e2, q⟩ := h1.sc S1
    cases d with
    | str a =>
      have := r1.str_
      subst this
      unfold oReplG at e2
      simp only at e2
      split at e2
      · rename_i hl
        cases e2
        exact ⟨a, rfl, hl, q _ rfl⟩
      · cases e2
    | _ => cases e2
  refine PySem.Call_method2 hbase hst hline (thnf hn (ho pins s σ H _ hn I w2) fun v s1 h1 ⟨x1, H1, I1, r1, a, e1, hb, q⟩ => ?_)
  subst e1
  obtain ⟨ta, rfl⟩ := r1
  refine ⟨"str", _, PySem.F.plainAttrs_str, PySem.F.slot_str_replace, PySem.F.type_str_replace, typeIs_str _ _ _, (fun _ e => nomatch e), Calls.callWith_builtin rfl (Calls.evalArgs_plain (Calls.spliced_cons ?_))⟩
  refine ld_glob I1 hg hm ?_ hd
  refine Calls.spliced_cons (Calls.Constant_str (Calls.spliced_nil ?_))
  exact PySem.SC.replace t0 (Nat.ne_of_gt (Nat.lt_of_lt_of_le (Nat.lt_of_le_of_lt (Nat.zero_le _) tN) h1)) (Nat.ne_of_lt (Nat.lt_of_lt_of_le tN h1)) hyz hb fun t' k => ⟨.str (Txt.replace a y z), H1, I1.tok k, ⟨t', rfl⟩, q⟩
end
end GW

namespace GW
open PySem L2 PyProof.Rows
/-! ### x = place.pop(i), i not below 0 -/
def rPop : V → List V → Hp → VK → Prop := fun x vs H Q => ∃ (l : Addr) (xs : List V) (i : Int) (y : V), x = .ref l ∧ vs = [.int i] ∧ H l = some (.lst xs) ∧ xs.length ≤ sizeLine ∧ 0 ≤ i ∧ xs[i.toNat]? = some y ∧
    Q y (upd H l (.lst (xs.take i.toNat ++ xs.drop (i.toNat + 1))))
theorem pop_arr (its : List Value) (k : Nat) (h : k < its.length) : its.toArray.eraseIdxIfInBounds k = (its.take k ++ its.drop (k + 1)).toArray := by
  have h' : k < its.toArray.size := by rw [List.size_toArray]; exact h
  unfold Array.eraseIdxIfInBounds
  rw [dif_pos h']
  apply Array.toList_inj.mp
  rw [Array.toList_eraseIdx]
  show its.eraseIdx k = _
  rw [List.eraseIdx_eq_take_drop_succ]
theorem mt_pop {X : Cx} : MtR X "list.pop" rPop := by
  intro pins s σ H x vs v us Q I rx rv h
  obtain ⟨l, xs, i, y, rfl, rfl, hH, hz, h0, hy, q⟩ := h
  cases rx
  obtain ⟨u1, rfl, r1⟩ := rv.one
  obtain ⟨t, rfl⟩ := r1
  obtain ⟨z, its, n, r, hl, e⟩ := I.lstM hH
  have hlen : i.toNat < xs.length := (List.getElem?_eq_some_iff.mp hy).1
  have hleq : its.length = xs.length := r.length.symm
  have hfit : Builtin.List.listFitsIndex i = true := fitsIndex_of h0 (by
    have : xs.length ≤ 16777216 := by rw [sizeLine_eq] at hz; exact hz
    omega)
  obtain ⟨u, hu, ru⟩ := r.get hy
  have hk : seqIndex? i its.toArray.size = some i.toNat := by
    rw [List.size_toArray]
    unfold seqIndex?
    simp only [show ¬ i < 0 by omega, if_false]
    have : (decide (0 ≤ i) && decide (i < (its.length : Int))) = true := by
      rw [Bool.and_eq_true, decide_eq_true_eq, decide_eq_true_eq]
      omega
    rw [if_pos this]
  refine call_meets F.slot_list_pop ⟨_, e, rfl⟩ F.entry_list_pop (F.args_list_pop_2 _ _) (PySem.MeetsSeq.list_pop_at l its.toArray n i t i.toNat u hfit hk (by simpa using hu) (by rw [List.size_toArray]; omega)) ⟨e, ?_⟩
  refine ⟨y, _, I.lset (its' := its.take i.toNat ++ its.drop (i.toNat + 1)) hH e ?_ ((r.take i.toNat).append (r.drop (i.toNat + 1))) ?_, ru, q⟩
  · exact pop_arr its i.toNat (by omega)
  · rw [List.length_append, List.length_take, List.length_drop]
    omega
def popD : List D → D → Option (D × List D)
  | as, .int z => if 0 ≤ z ∧ as.length ≤ 16777216 then (match as[z.toNat]? with
    | some d => some (d, as.take z.toNat ++ as.drop (z.toNat + 1))
    | none => none) else none
  | _, _ => none
def sPop (i : Nat) (mp : Mo Pth) (j : Nat) (me : M) : MS := sE mp fun π n ds => match ds[i]? with
  | some (some d0) => (match getP π d0 with
    | some (.lst as) => sE me (fun z n ds => match popD as z with
      | some (d, as') => some (.nx, n, (ds.set i (some (setP π d0 (.lst as')))).set j (some d))
      | none => none) n ds
    | _ => none)
  | _ => none
section
variable {X : Cx} {C : Ctx} {wx : WX} {kr k : Nat} {o e : Expr} {pos : Pos} {me : M} {mp : Mo Pth}
theorem ws_pop {i j l : Nat} {x : Str} {apos cpos p' : Pos} (ho : PE X o (WPl C wx i mp)) (hl : PlT mp l) (hT : C.T i = l + 1) (he : PE X e (W C wx .bo 0 me)) (hTj : C.T j = 0) (hp : C.pn j = none) (hN : X.N.Nodup)
    (hi : X.N[j]? = some x := by rfl) (hx : Loc X.env.scope x := by first | exact Or.inl rfl | exact Or.inr rfl)
    (hbase : attributeBase o "pop" X.env (eval o X.env) = eval o X.env := by rfl)
    (hfew : ((backTo cpos (starEach [e] X.env)).all (fun x => !x.1) && (backToKw cpos (keywordEach [] X.env)).all (fun x => x.1.isSome)
      && decide (([e] : List Expr).length + ([] : List Keyword).length + (if ([] : List Keyword).isEmpty then 0 else 1) < 30)) = true := by rfl)
    (hline : (apos.endLine == cpos.line) = true := by rfl) (hs : starEach [e] X.env = (false, eval e X.env) :: starEach [] X.env := by rfl) (hplain : (backTo cpos (starEach [] X.env)).any (·.1) = false := by rfl)
    (hsw : swapsWith (.Call (.Attribute o "pop" apos) [e] [] cpos) (some (.Name x p')) pos.line X.env = pure false := by rfl) (hf : X.fn x = true ∨ X.env.scope.names.lookup x = some .local := by first | exact .inl rfl | exact .inr rfl | assumption) :
    PS X (.Assign [.Name x p'] (.Call (.Attribute o "pop" apos) [e] [] cpos) pos) (WS C wx kr (sPop i mp j me)) :=
  (ps_set hN hi hx (pe_bm PySem.F.plainAttrs_list PySem.F.slot_list_pop PySem.F.type_list_pop mt_pop ho (pa_cons he pa_nil hs) hbase hfew hline hs hplain) hsw hf).wk fun E σ H w => by
  obtain ⟨F, B, n, ds, S, h⟩ := w
  refine ⟨F, B, n, ds, S, WL.strong hl ((wsl_e (R := fun H F' H' v d => RPl σ i H F' H' v d ∧ d.len = l) S h).mono fun v H1 ⟨F1, n1, π, G1, S1, ⟨⟨p, hvp, hpv⟩, hπ⟩, h1⟩ => ?_)⟩
  subst hvp
  cases hd : ds[i]? with
  | none => unfold WSL at h1; simp only [hd] at h1
  | some x =>
    cases x with
    | none => unfold WSL at h1; simp only [hd] at h1
    | some d0 =>
      cases hg : getP π d0 with
      | none => unfold WSL at h1; simp only [hd, hg] at h1
      | some e0 =>
        cases e0 with
        | lst as =>
          have h1' : WSL C wx kr (sE me fun z n ds => match popD as z with
            | some (d, as') => some (.nx, n, (ds.set i (some (setP π d0 (.lst as')))).set j (some d))
            | none => none) F B n1 ds H E := by
            refine WSL.tr (GoS.refl S.fh) ?_ h1
            simp only [hd, hg]
          obtain ⟨Ae, N1⟩ := S1.nodeP hd hg rfl (k := 0) (by rw [hT]) hπ hpv
          obtain ⟨vs, hvs, _, _⟩ := N1.lst
          refine ⟨.inl ⟨rfl, _, .inl (.inl hvs)⟩, F1, B, n1, ds, S1, (wsl_e0 (R := RV C .bo 0) (G1.toS S.qB) S1 h1').mono fun y H2 ⟨F2, n2, z, G2, S2, ⟨A2, r2, f2⟩, h2⟩ => ?_⟩
          obtain ⟨Ae2, N2⟩ := S2.nodeP hd hg rfl (k := 0) (by rw [hT]) hπ (N1.keep F2 H2 G2)
          obtain ⟨vs2, hvs2, rv2, mu⟩ := N2.lst
          unfold WSL at h2
          cases hf2 : popD as z with
          | none => simp only [hf2] at h2
          | some pr =>
            obtain ⟨d, as'⟩ := pr
            simp only [hf2] at h2
            cases z with
            | int z =>
              have hf2 : (if 0 ≤ z ∧ as.length ≤ 16777216 then (match as[z.toNat]? with
                | some d => some (d, as.take z.toNat ++ as.drop (z.toNat + 1))
                | none => none) else none) = some (d, as') := hf2
              by_cases hc : 0 ≤ z ∧ as.length ≤ 16777216
              · rw [if_pos hc] at hf2
                obtain ⟨hz0, hz1⟩ := hc
                cases hd' : as[z.toNat]? with
                | none => rw [hd'] at hf2; cases hf2
                | some d' =>
                  rw [hd'] at hf2
                  cases hf2
                  have hyz : y = V.int z := by cases r2; rfl
                  subst hyz
                  have hkl : z.toNat < vs2.length := by rw [rv2.1]; exact (List.getElem?_eq_some_iff.mp hd').1
                  have hvy := List.getElem?_eq_getElem hkl
                  have ry := rv2.2 z.toNat _ _ hvy hd'
                  obtain ⟨B', b1, S3⟩ := mu (vs2.take z.toNat ++ vs2.drop (z.toNat + 1)) (as.take z.toNat ++ as.drop (z.toNat + 1)) ((rv2.take _).append (rv2.drop _))
                  refine ⟨p, vs2, z, _, rfl, rfl, hvs2, by rw [sizeLine_eq, rv2.1]; exact hz1, hz0, hvy, ?_⟩
                  have ry' : Rp C.K F2 (upd H2 p (.lst (vs2.take z.toNat ++ vs2.drop (z.toNat + 1)))) (C.T j) vs2[z.toNat] d (fun _ => False) := by
                    rw [hTj]
                    exact ry.z.mono (Same.refl _) (upd_mk hvs2 rfl) fun _ _ h => h.elim
                  have S4 := S3.set (i := j) (H0 := H2) ry' (fun _ z => z.elim) hp (fun _ z => z.elim)
                  exact h2 _ F2 _ _ (N2.goS S (G1.trans G2) S2 fun a ha => .inl (ha.elim (b1 a) fun z => z.elim)) S4
              · rw [if_neg hc] at hf2; cases hf2
            | _ => cases hf2
        | _ => unfold WSL at h1; simp only [hd, hg] at h1
end
end GW

namespace GW
open PySem L2 PyProof.Rows
section
variable {X : Cx} {C : Ctx} {wx : WX} {e : Expr} {m : Mo Bool}
/-- a test, a slot's own thing let stand for its time -/
theorem vt_snap {i : Nat} (h : PT X e (WW (C.frz i) wx RT m)) : PT X e (WW C wx RT m) := h.wk fun σ H Q w => by
  obtain ⟨F, B, n, ds, S, h⟩ := w
  obtain ⟨F1, B1, G0, S1⟩ := S.frzTo i
  refine ⟨F1, B1, n, ds, S1, ?_⟩
  have back : ∀ {F' H' : Hp} {n' : Int}, GoC C.q F1 H F' H' → Sim (C.frz i) F' B1 σ H' n' ds → GoC C.q F H F H' ∧ Sim C F B σ H' n' ds := fun G S' => by
    have g : GoC C.q F H F _ := ⟨⟨Same.refl _, (G0.ff.trans G.go.ff).trans G.go.fh, G.go.hh, G.go.ht, fun _ _ e _ => e⟩, G.dm⟩
    exact ⟨g, S.go g fun q hq => (S'.cell q hq).2⟩
  unfold WL at h ⊢
  cases hm : m n ds with
  | none => rw [hm] at h; exact h
  | some r =>
    obtain ⟨r, n'⟩ := r
    rw [hm] at h
    cases r with
    | ok d => exact fun v F' H' G S' q => h v F H' (back G S').1 (back G S').2 q
    | ex c fs => exact fun F' H' od G S' q => h F H' od (back G S').1 (back G S').2 q
end
end GW

namespace GW
open PySem L2 PyProof.Rows
/-! ### text.split(text) -/
def oSplit (a : Str) : D → Option D
  | .str b => if 0 < b.length ∧ a.length + 2 ≤ 16777216 then some (.lst ((Txt.split a b).map D.str)) else none
  | _ => none
section
variable {X : Cx} {C : Ctx} {wx : WX} {g : Rg} {k kr : Nat} {oe a b e : Expr} {pos apos : Pos} {m mo me mj : M} {mp : Mo Pth}
theorem ve_split (ho : PE X oe (W C wx .bo 0 mo)) (he : PE X e (W C wx .bo 0 me))
    (hs : starEach [e] X.env = (false, eval e X.env) :: starEach [] X.env := by rfl) (hbase : attributeBase oe "split" X.env (eval oe X.env) = eval oe X.env := by rfl) (hline : (apos.endLine == pos.line) = true := by rfl)
    (hfew : ((backTo pos (starEach [e] X.env)).all (fun x => !x.1) && (backToKw pos (keywordEach [] X.env)).all (fun x => x.1.isSome)
      && decide (([e] : List Expr).length + ([] : List Keyword).length + (if ([] : List Keyword).isEmpty then 0 else 1) < 30)) = true := by rfl) (hpl : (backTo pos (starEach [] X.env)).any (·.1) = false := by rfl) :
    PE X (.Call (.Attribute oe "split" apos) [e] [] pos) (W C wx .fz 1 (mM1 mo me oSplit)) :=
  (pe_bm PySem.F.plainAttrs_str PySem.F.slot_str_split PySem.F.type_str_split mt_split ho (pa_cons he pa_nil hs) hbase hfew hline hs hpl).wk fun σ H Q w => by
  obtain ⟨F, B, n, ds, S, h⟩ := w
  refine ⟨F, B, n, ds, S, (h.bind fun F1 H1 F2 H2 v d G r => r.tr G).mono fun x H1 ⟨F1, n1, da, G1, S1, ⟨A1, r1, f1⟩, h1⟩ => ?_⟩
  cases da with
  | str z =>
    have hx := r1.str_
    subst hx
    refine ⟨rfl, F1, B, n1, ds, S1, (h1.bind fun F1 H1 F2 H2 v d G r => r.tr G).mono fun y H2 ⟨F2, n2, db, G2, S2, ⟨A2, r2, f2⟩, h2⟩ => ?_⟩
    obtain ⟨d, e, q⟩ := h2.retE
    cases db with
    | str b =>
      have hy := r2.str_
      subst hy
      unfold oSplit at e
      dsimp only at e
      split at e
      · rename_i hc
        cases e
        refine ⟨z, b, rfl, rfl, ?_, by rw [sizeLine_eq]; exact hc.2, fun p hp => ?_⟩
        · rw [beq_eq_false_iff_ne]; omega
        · obtain ⟨G3, S3⟩ := S2.newO (o := .lst _) hp
          refine q (.ref p) F2 _ G3 S3 ⟨fun a => a = p, .lstO (fun _ _ => False) upd_same rfl ?_ (fun i v d a' b' => ?_) (fun _ _ h => h.elim) (fun _ _ _ h => h.elim), Fr.one S2.fh hp rfl⟩
          · rw [List.length_map, List.length_map]
          · rw [List.getElem?_map] at a' b'
            obtain ⟨u, hu, rfl⟩ := Option.map_eq_some_iff.mp a'
            rw [hu] at b'
            cases b'
            exact .str
      · cases e
    | _ => cases e
  | _ =>
    obtain ⟨d, e, q⟩ := h1.retE
    cases e
/-! ### place[i] op= e, i not below 0 -/
def rGetN : V → V → Hp → VK → Prop := fun x y H Q => ∃ (p : Addr) (xs : List V) (i : Int) (v : V), x = .ref p ∧ y = .int i ∧ H p = some (.lst xs) ∧ xs.length ≤ sizeLine ∧ 0 ≤ i ∧ xs[i.toNat]? = some v ∧ Q v H
theorem get_list : PGet X rGetN := by
  intro pins s σ H o i ov iv Q I ro ri h
  obtain ⟨p, xs, i, v, rfl, rfl, hH, hz, h0, hv, q⟩ := h
  cases ro
  obtain ⟨t, rfl⟩ := ri
  obtain ⟨z, its, n, r, hl, e⟩ := I.lstM hH
  obtain ⟨u, hu, ru⟩ := r.get hv
  have hlen : i.toNat < xs.length := (List.getElem?_eq_some_iff.mp hv).1
  refine wpAny_getItem_list (items := its.toArray) ⟨_, e, rfl, n, rfl⟩ h0 (by
    have : xs.length ≤ 16777216 := by rw [sizeLine_eq] at hz; exact hz
    omega) (by simpa using hu) ⟨v, H, I, ru, q⟩
def sAugI (i : Nat) (mp : Mo Pth) (mj me : M) (o : D → D → Option D) : MS := sE mp fun π => sE mj fun z n ds => match ds[i]? with
  | some (some d0) => (match getP π d0, z with
    | some (.lst as), .int z => if 0 ≤ z ∧ as.length ≤ 16777216 then (match as[z.toNat]? with
      | some x => sE me (fun y n ds => match o x y with
        | some d2 => some (.nx, n, ds.set i (some (setP π d0 (.lst (as.set z.toNat d2)))))
        | none => none) n ds
      | none => none) else none
    | _, _ => none)
  | _ => none
theorem ws_augI {i l : Nat} {op : Operator} {tpos : Pos} {r : R2} {o : D → D → Option D} (hr : OpR X (inplaceOp op) r) (hop : OpS C.K r o) (ho : PE X oe (WPl C wx i mp)) (hl : PlT mp l) (hT : C.T i = l + 1) (hj : PE X b (W C wx .bo 0 mj)) (he : PE X e (W C wx .bo 0 me))
    (ha : ∀ ov iv new, augStore b ov iv new = (do holding [new, ov, iv] (setItem ov iv new); release [new, ov, iv] []; pure .next) := by intros; rfl) :
    PS X (.AugAssign (.Subscript oe b tpos) op e pos) (WS C wx kr (sAugI i mp mj me o)) :=
  (ps_augS ho hj get_list he (tip := r) (fun pins s σ H x y v u Q I rx ry h => hr pins s σ H x y v u Q I rx ry h) set_list ha).wk fun E σ H w => by
  obtain ⟨F, B, n, ds, S, h⟩ := w
  refine ⟨F, B, n, ds, S, WL.strong hl ((wsl_e (R := fun H F' H' v d => RPl σ i H F' H' v d ∧ d.len = l) S h).mono fun x H1 ⟨F1, n1, π, G1, S1, ⟨⟨p, hvp, hpv⟩, hπ⟩, h1⟩ => ?_)⟩
  subst hvp
  refine ⟨F1, B, n1, ds, S1, (wsl_e0 (R := RV C .bo 0) (G1.toS S.qB) S1 h1).mono fun y H2 ⟨F2, n2, z, G2, S2, ⟨A2, r2, f2⟩, h2⟩ => ?_⟩
  unfold WSL at h2
  cases hd : ds[i]? with
  | none => simp only [hd] at h2
  | some x =>
    cases x with
    | none => simp only [hd] at h2
    | some d0 =>
      cases hg : getP π d0 with
      | none => simp only [hd, hg] at h2
      | some e0 =>
        cases e0 with
        | lst as =>
          cases z with
          | int z =>
            have ey := r2.int_
            subst ey
            by_cases hc : 0 ≤ z ∧ as.length ≤ 16777216
            · cases hx : as[z.toNat]? with
              | none => simp only [hd, hg, if_pos hc, hx] at h2
              | some a =>
                obtain ⟨Ae, N1⟩ := S1.nodeP hd hg rfl (k := 0) (by rw [hT]) hπ hpv
                obtain ⟨Ae2, N2⟩ := S2.nodeP hd hg rfl (k := 0) (by rw [hT]) hπ (N1.keep F2 H2 G2)
                obtain ⟨vs2, hvs2, rv2, mu⟩ := N2.lst
                have hkl : z.toNat < vs2.length := by rw [rv2.1]; exact (List.getElem?_eq_some_iff.mp hx).1
                have hvy := List.getElem?_eq_getElem hkl
                have h2' : WSL C wx kr (sE me fun y n ds => match o a y with
                  | some d2 => some (.nx, n, ds.set i (some (setP π d0 (.lst (as.set z.toNat d2)))))
                  | none => none) F B n2 ds H E := by
                  unfold WSL
                  simp only [hd, hg, if_pos hc, hx] at h2
                  exact h2
                refine ⟨p, vs2, z, _, rfl, rfl, hvs2, by rw [sizeLine_eq, rv2.1]; exact hc.2, hc.1, hvy, F2, B, n2, ds, S2, (wsl_e0 (R := RV C .bo 0) ((G1.trans G2).toS S.qB) S2 h2').mono fun y' H3 ⟨F3, n3, d3, G3, S3, ⟨A3, r3, f3⟩, h3⟩ => ?_⟩
                cases ho2 : o a d3 with
                | none => unfold WSL at h3; simp only [ho2] at h3
                | some d2 =>
                  unfold WSL at h3
                  simp only [ho2] at h3
                  obtain ⟨Ae3, N3⟩ := S3.nodeP hd hg rfl (k := 0) (by rw [hT]) hπ (N2.keep F3 H3 G3)
                  obtain ⟨vs3, hvs3, rv3, mu3⟩ := N3.lst
                  have h23 := G3.go.hh p _ hvs2 N2.pq
                  rw [hvs3] at h23
                  have h23 : vs3 = vs2 := by cases h23; rfl
                  subst h23
                  have rx : Rp C.K (rg C.q .bo F3 H3) H3 0 vs3[z.toNat] a (fun _ => False) := Rp.read S3 (rv3.2 z.toNat _ _ hvy hx) fun _ q => q.elim
                  obtain ⟨w2, hw2, hr2⟩ := hop _ _ _ y' a d3 d2 _ _ (rg_same S3.fh) rx r3 ho2
                  obtain ⟨B', b1, S4⟩ := mu3 (vs3.set z.toNat w2) (as.set z.toNat d2) (rv3.set (A := fun _ => False) (Rp.of_sc hw2) z.toNat)
                  have hix : ixN vs3.length z = some z.toNat := by
                    unfold ixN
                    rw [if_pos hc.1, if_pos (by omega)]
                  exact hr2 _ ⟨p, vs3, z, z.toNat, rfl, rfl, hvs3, hix, h3 σ F3 B' _ (N3.goS S (G1.trans (G2.trans G3)) S3 fun a ha => .inl (b1 a ha)) S4⟩
            · simp only [hd, hg, if_neg hc] at h2
          | _ => simp only [hd, hg] at h2
        | _ => simp only [hd, hg] at h2
end
end GW

namespace GW
open PySem L2 PyProof.Rows
/-! ### text or something -/
def tOrT (ta tb : TE) : TE := fun σ H Q => ta σ H fun x H1 => ∃ z : Str, x = .str z ∧ z.length ≤ 16777216 ∧ if z.length = 0 then tb σ H1 Q else Q (.str z) H1
def mOrT (ma mc : M) : M := mb ma fun d => match d with
  | .str z => if z.length ≤ 16777216 then (if z.length = 0 then mc else ret (some (.str z))) else ret none
  | _ => ret none
section
variable {X : Cx} {C : Ctx} {wx : WX} {g : Rg} {k : Nat} {a b : Expr} {rest : List Expr} {pos : Pos} {ma mc : M} {ta tb : TE}
theorem pe_orT (ha : PE X a ta) (hb : PE X (.BoolOp .Or (b :: rest) pos) tb) : PE X (.BoolOp .Or (a :: b :: rest) pos) (tOrT ta tb) := by
  refine ⟨fun pins s σ H Q I h => ?_⟩
  refine BoolOp_or (thn (ha.run pins s σ H _ I h) fun v s1 ⟨x, H1, I1, r1, q1⟩ => ?_)
  obtain ⟨z, rfl, hl, q1⟩ := q1
  have r1' := r1
  obtain ⟨t, rfl⟩ := r1
  refine PySem.P.truthy_str (by omega) ?_
  by_cases hz : z.length = 0
  · rw [if_pos hz] at q1
    have : ((z.length : Int) != 0) = false := by simp [hz]
    rw [this]
    exact hb.run pins _ σ H1 Q (I1.tok _) q1
  · rw [if_neg hz] at q1
    have : ((z.length : Int) != 0) = true := by simp; omega
    rw [this]
    exact ⟨.str z, H1, I1.tok _, r1', q1⟩
theorem ve_orT (ha : PE X a (W C wx .bo 0 ma)) (hb : PE X (.BoolOp .Or (b :: rest) pos) (W C wx g k mc)) : PE X (.BoolOp .Or (a :: b :: rest) pos) (W C wx g k (mOrT ma mc)) := by
  refine (pe_orT ha hb).wk fun σ H Q w => ?_
  obtain ⟨F, B, n, ds, S, h⟩ := w
  refine ⟨F, B, n, ds, S, (h.bind fun F1 H1 F2 H2 v d G r => r.tr G).mono fun x H1 ⟨F1, n1, d, G1, S1, ⟨A1, r1, f1⟩, h1⟩ => ?_⟩
  cases d with
  | str z =>
    have hx := r1.str_
    subst hx
    have h1 : WL C wx (RV C g k) (if z.length ≤ 16777216 then (if z.length = 0 then mc else ret (some (.str z))) else ret none) F1 B n1 ds σ H1 Q := h1
    by_cases hl : z.length ≤ 16777216
    · refine ⟨z, rfl, hl, ?_⟩
      rw [if_pos hl] at h1
      by_cases hz : z.length = 0
      · rw [if_pos hz]
        rw [if_pos hz] at h1
        exact ⟨F1, B, n1, ds, S1, h1⟩
      · rw [if_neg hz]
        rw [if_neg hz] at h1
        obtain ⟨d, e, q⟩ := h1.sc S1
        cases e
        exact q _ rfl
    · rw [if_neg hl] at h1
      obtain ⟨d, e, q⟩ := h1.sc S1
      cases e
  | _ => obtain ⟨d, e, q⟩ := h1.sc S1; cases e
end
end GW

namespace GW
open PySem L2 PyProof.Rows
/-! ### the head: own facts beside the kit's -/
def oexB (K : PySem.W.Frag) (C : Addr) : Bool := (match K.lookup C with
  | some ⟨.type "type", _, .cls cd, sl⟩ => (match cd.mro, sl.toList with
    | .ref C' :: bm, [_, _, _, _, some (.builtin n), _] => C' == C && (n == "ValueError.__new__" && (!cd.hasDel && (cd.hasDict && PySem.HandSPX.refsVE bm)))
    | _, _ => false)
  | _ => false) && (decide (PySem.W.findIn K (.ref C) "__setattr__" = some (some (.builtin "object.__setattr__"))) && (decide (PySem.W.findIn K (.ref C) "__init__" = some (some (.ref (He.ma K C "__init__")))) && decide (PySem.W.typeIn K (.ref (He.ma K C "__init__")) = some (.type "function"))))
theorem oexB_ok {K : PySem.W.Frag} {C : Addr} (F : ExF K C) (h : oexB K C = true) : OexC K C ∧ PySem.W.findIn K (.ref C) "__init__" = some (some (.ref (He.ma K C "__init__"))) ∧ PySem.W.typeIn K (.ref (He.ma K C "__init__")) = some (.type "function") := by
  unfold oexB at h
  obtain ⟨h1, h2⟩ := Bool.and_eq_true_iff.mp h
  obtain ⟨h3, h4⟩ := Bool.and_eq_true_iff.mp h2
  obtain ⟨h5, h6⟩ := Bool.and_eq_true_iff.mp h4
  refine ⟨⟨?_, of_decide_eq_true h3, F.sb, F.ty, F.kp⟩, of_decide_eq_true h5, of_decide_eq_true h6⟩
  split at h1
  · rename_i dd cd sl ho
    split at h1
    · rename_i C' bm k0 k1 k2 k3 n k5 hm hs
      simp only [Bool.and_eq_true, beq_iff_eq, Bool.not_eq_true'] at h1
      obtain ⟨rfl, rfl, hdel, hdict, hv⟩ := h1
      obtain ⟨nm, bs, mro, ns, qn, hd, sn, sub, ab, col, del⟩ := cd
      dsimp only at hm hdel hdict hv
      subst hm hdel hdict
      have hsl : sl = #[k0, k1, k2, k3, some (.builtin "ValueError.__new__"), k5] := by
        obtain ⟨l⟩ := sl
        simp only at hs
        rw [hs]
      subst hsl
      exact ⟨nm, qn, ns, bs, bm, sn, sub, ab, col, dd, k0, k1, k2, k3, k5, ho, hv⟩
    · cases h1
  · cases h1
abbrev AlX : Type := Bool × He.AlD
def obsX (fa : List He.Fa) (fn : List He.DefD) (fb : List (PySem.W.Frag → Bool)) (K : PySem.W.Frag) : AlX := (fb.all fun f => f K, He.obsD fa fn K)
def SaysX (fa : List He.Fa) (fn : List He.DefD) (fb : List (PySem.W.Frag → Bool)) (K : PySem.W.Frag) : Prop := obsX fa fn fb K = (true, He.valD fn)
def obsXG (n : Nat) (fa : List He.Fa) (fn : List He.DefD) (fb : List (PySem.W.Frag → Bool)) (g : Addr → Option Obj) : AlX := obsX fa fn fb (He.frG g (He.asD g n))
def hookX (n : Nat) (fa : List He.Fa) (fn : List He.DefD) (fb : List (PySem.W.Frag → Bool)) : PySem.W.Hook where
  α := AlX
  obs := fun s => obsXG n fa fn fb s.heap.get?
  val := fun _ => (true, He.valD fn)
  says := fun _ h => ∃ K : PySem.W.Frag, K.In h ∧ SaysX fa fn fb K
  of := fun _ _ e => ⟨_, He.frG_in, e⟩
  keeps := fun _ _ _ ⟨K, hK, c⟩ k => ⟨K, PySem.W.Frag.In.keeps hK k, c⟩
theorem obsXG_eq {n : Nat} {fa : List He.Fa} {fn : List He.DefD} {fb : List (PySem.W.Frag → Bool)} {g : Addr → Option Obj} {s : Shared} (h : ∀ a, g a = s.heap.get? a) : obsXG n fa fn fb g = (hookX n fa fn fb).obs s := by
  have e : g = s.heap.get? := funext h
  rw [e] <;> rfl
section
variable {fa : List He.Fa} {fn : List He.DefD} {fb : List (PySem.W.Frag → Bool)} {K : PySem.W.Frag}
theorem SaysX.d (c : SaysX fa fn fb K) : He.SaysD fa fn K := congrArg (fun z : AlX => z.2) c
theorem SaysX.own (c : SaysX fa fn fb K) (i : Nat) {f : PySem.W.Frag → Bool} (h : fb[i]? = some f := by rfl) : f K = true :=
  List.all_eq_true.mp (congrArg (fun z : AlX => z.1) c) f (List.mem_of_getElem? h)
theorem gtup_ok {mg : Str → Option Value} {x : Str} {zs : List Str} (g : mg x = some (.ref (He.ga K x))) (h : He.tupB K x (zs.map He.Dv.str) = true) : GTup K mg x zs := ⟨g, fun H => by
  have := He.tupB_ok h H
  rw [List.map_map] at this
  exact this⟩
theorem eown_ok {h : Heap} {mg : Str → Option Value} {c : Nat} (X : K.In h) (G : h.Ns mainGlobals mg) (F : ExF K (ec K c)) (c1 : (He.Fa.glo (exN c)).ok K = true) (c2 : (He.Fa.exc (exN c)).ok K = true) : EOwn K mg c :=
  ⟨He.glo_ok X G c1, (He.exc_ok c2).1, F⟩
theorem emk_ok {P : Program} {w : World} {h : Heap} {mg : Str → Option Value} {base : Heap} {c : Nat} {fs : List Str} (X : K.In h) (G : h.Ns mainGlobals mg) (F : ExF K (ec K c)) (c1 : (He.Fa.glo (exN c)).ok K = true) (c2 : oexB K (ec K c) = true)
    (hf : OexC K (ec K c) → ∃ (fd : FuncData) (ps : List Str), FnOk P w K mg base (L2.CX P w) 1 (He.ma K (ec K c) "__init__") fd ps (spX K (ec K c) fs) ∧ Binds K fd ps []) : EMk P w K mg base c fs := by
  obtain ⟨T, h1, h2⟩ := oexB_ok F c2
  obtain ⟨fd, ps, h3, h4⟩ := hf T
  exact ⟨He.glo_ok X G c1, T, _, fd, ps, h1, h2, h3, h4⟩
end
end GW

/-! the head with what the end of the module's text tells of the tokens -/
namespace GW
open PySem PySem.W PySem.Calls PyProof.Rows HandSHeadRun
/-- what the walk may lean on: the state behind the module's text (s₀), with the Hook's equation; the tokens have only grown since -/
structure Behind (H : Hook) (w : World) (s₀ s₁ : Shared) (mg : Str → Option Value) : Prop where
  obs : H.obs s₀ = H.val w
  tok : s₀.toks ≤ s₁.toks
  mg : mg = s₀.heap.nsMap mainGlobals
abbrev WalkT (H : Hook) (q : Program) (loose : List Str) (XP : (Str → Option Value) → Heap → Prop) (r : RowW) (d : DefRec) (kwd : List (Str × Expr)) : Prop :=
  ∀ (w : World) (s₀ s₁ : Shared) (mg mb : Str → Option Value), Behind H w s₀ s₁ mg → Ground q loose r.records XP w s₀ mg mb s₁.heap → H.says w s₁.heap → ∀ (a : Addr) (o : Obj) (pm cd doc dV kV : Value),
    s₁.heap.get? a = some o → o.data = .func { docDef d.name d.params d.body d.scope pm cd doc with defaults := dV, kwdefaults := kV } → s₁.heap.CodeRec cd d.name → Dflts mg s₁.heap d.params kwd dV kV → mg d.name = some (.ref a) → s₁.gens = #[] →
    ∀ (args : List WData) (vals : List Value) (as : List Addr), r.claim.pre args = true → WData.layableAll args = true → ReadsAllW r.records (classAt s₀.heap) s₁.heap vals args as → WellAll w.params s₁.heap vals args → (∀ x ∈ as, (x == sysModules) = false) →
      wpAny (model r.prog w) callerA (PySem.call (.ref a) vals) (fun v s' => GoodWG r.claim (classAt s₀.heap) (ExcName.means s₀.heap) args s₁ (.ok (.ret v)) s')
        (fun e s' => GoodWG r.claim (classAt s₀.heap) (ExcName.means s₀.heap) args s₁ (.error e) s') s₁
theorem holds_tok {r : OpenRow} {q : Program} {loose : List Str} {H : Hook} {Xt : Shared → Bool} {XP : (Str → Option Value) → Heap → Prop} {d : DefRec} {kwd : List (Str × Expr)} {n : Nat}
    (left : LeftO r.prog q loose Xt H.obs H.val n) (x1 : ∀ s, Xt s = true → XP (s.heap.nsMap mainGlobals) s.heap)
    (x2 : ∀ mg h h', XP mg h → (∀ b o, h.get? b = some o → h'.get? b = some o) → XP mg h') (x3 : ∀ s, Xt s = true → RecFacts r.toRowW.records s.heap)
    (hd : defOf q r.name = some (d, kwd)) (hp : r.prog.theDef r.name = some (d.params, d.body, d.scope)) (hk : kwWritten? d.params.kwonlyargs d.params.kw_defaults = some kwd)
    (hwr : (!r.writes || r.toRowW.records.isEmpty) = true) (k1 : r.wellSaid = true) (ok : (chainsOk q && opensWell r.prog && (frees r.toRowW && r.within.isEmpty)) = true)
    (hb : r.prog.bare) (hw : r.toRowW.promised) (call : WalkT H q loose XP r.toRowW d kwd) : r.Holds := by
  simp only [Bool.and_eq_true] at ok
  obtain ⟨⟨ok1, ok2⟩, ok3, ok4⟩ := ok
  obtain ⟨z1, z2, z3, z4, z5⟩ := frees_parts ok3
  have z6 : r.toRowW.claim.within = [] := List.isEmpty_iff.mp ok4
  have lb := fun w => left.behind (XP := fun mg h => XP mg h ∧ RecFacts r.toRowW.records h) (fun s hs => ⟨x1 s hs, x3 s hs⟩) ok1 w
  refine ⟨k1, hw, ⟨hb, ok2, (congrArg (List.map _) z5).trans rfl⟩, hw.witness, fun w => ⟨(lb w).1, fun sa hsa => ?_⟩⟩
  obtain ⟨s0, e0, e1, s, top, asl, gz, gl, g0, y⟩ := (lb w).2 sa hsa
  have gr : Ground q loose [] XP w s (s.heap.nsMap mainGlobals) (s.heap.nsMap builtinsNs) s.heap :=
    ⟨g0.T, g0.B, g0.D, g0.TE, g0.TD, g0.W, g0.X.1, g0.cls, g0.has, g0.apart, g0.once, g0.K⟩
  have rf := g0.X.2
  have gz : s.gens = #[] := Array.eq_empty_of_size_eq_zero (by simpa using gz)
  refine ⟨s0, e0, e1, s, top, fun nm hn => ?_, rf.1, rf.2.1, ?_⟩
  · have hnn : nm = r.name := by split at hn <;> simp_all
    rw [hnn]
    exact pinned_of_view gl gr hd hp hk
  refine ClaimW.callFrom_of_specG (c := r.toRowW.claim) asl gz fun args hpre hlay ord hord => ?_
  have gR := rf.ground gr
  obtain ⟨⟨vs, s1⟩, laid⟩ := Option.isSome_iff_exists.mp (layAllW_isSome (P := w.params) (ord := ord) gR.has args r.toRowW.args s (pre_splitW hpre).1)
  have grow := layAllW_grows (R := r.toRowW.records) args s _ laid
  have rest := layAllW_rest (R := r.toRowW.records) args s _ laid
  obtain ⟨as, rd, wi, old⟩ := reads_layAllW hord _ _ _ laid hlay s1.heap fun _ _ e => e
  have L : Laid r.toRowW.records w s s1 args vs as := ⟨⟨ord, hord, laid⟩, rd, wi, old, grow.keeps, rest.1.trans gz, rest.2.2.1⟩
  have g1 := gR.keeps x2 grow.keeps
  obtain ⟨a, o, pm, cd, doc, dV, kV, f1, f2, f3, f4, f5⟩ := g1.fn hd
  have hc := call w s s1 _ _ ⟨y, grow.toks, rfl⟩ g1 (H.keeps _ _ _ (H.of w s y) grow.keeps) a o pm cd doc dV kV f2 f3 f4 f5 (defOf_name hd ▸ f1) L.gens args vs as hpre hlay L.reads L.well (L.low gR.low)
  have idf := ident_freeW z2 z3 z4
  have fin : ∀ {res : Result} {s' : Shared}, GoodWG r.toRowW.claim (classAt s.heap) (ExcName.means s.heap) args s1 res s' → _ := fun {res s'} gd => gd.laid (c := r.toRowW.claim) z1 z6 idf L
  have kept : ∀ {s' : Shared}, (∀ b o, s1.heap.get? b = some o → asItWas s1.heap s'.heap b o) → r.writes = true → namesKept r.prog r.keeps s.heap s'.heap ∧ ∀ x ∈ r.toRowW.records, ∀ a, classAt s.heap x.1 = some a → recordClass s'.heap a x.1 (x.2.map (·.1)) = true := fun {s'} ow hwx =>
    ⟨namesKept_of top gl r.keeps grow.keeps ow, noTable hwr hwx⟩
  refine ⟨vs, s1, laid, wpAny_bind (wpAny_nsGet g1.T.g ?_)⟩
  rw [f1]
  refine wpAny_bind (wpAny_mono hc (fun v s' gd => wpAny_pure ?_) fun e s' gd => ?_)
  · have z := fin gd
    exact ⟨_, rfl, z.1, z.2.1, z.2.2, kept gd.2.1.old⟩
  · have z := fin gd
    exact ⟨z.1, z.2.1, z.2.2, kept gd.2.1.old⟩
theorem head_tok {r : OpenRow} {q : Program} {H : Hook} {ob : SharedT → H.α} {M : Nat} {loose : List PySem.Str} {d : DefRec} {kwd : List (PySem.Str × PySem.Expr)} (ho : ∀ s : SharedT, ob s = H.obs s.abs)
    (e : opening r.prog = plainProg r.prog.main.scope.names) (f : ∀ s, fenceModules? r.prog s = some s) (run : ∀ w, RunEq r q H ob M loose w)
    (hd : defOf q r.name = some (d, kwd)) (hp : r.prog.theDef r.name = some (d.params, d.body, d.scope)) (hk : kwWritten? d.params.kwonlyargs d.params.kw_defaults = some kwd)
    (hwr : (!r.writes || r.toRowW.records.isEmpty) = true) (k1 : r.wellSaid = true) (ok : (chainsOk q && opensWell r.prog && (frees r.toRowW && r.within.isEmpty)) = true) (hb : r.prog.bare) (hw : r.toRowW.promised)
    (call : WalkT H q loose (XL q []) r.toRowW d kwd) : r.Holds := by
  have obf : ob = fun s => H.obs s.abs := funext ho
  have lf : LeftO r.prog q loose (fun s => xlAt q [] s && recOk r.toRowW.records s) H.obs H.val (M + 600) true := by
    refine left_one (M := M) e (Nat.ble_eq_true_of_le (Nat.le_add_left _ _)) f (Nat.ble_eq_true_of_le (Nat.le_add_right _ _)) fun w os => ?_
    have z := run w os
    rw [obf] at z
    simp only [endQ_eq, seenQ_eq]
    exact z
  exact holds_tok lf (fun s z => xl_of s (by simp only [Bool.and_eq_true] at z; exact z.1)) XL.keeps (fun s z => recFacts_of (by simp only [Bool.and_eq_true] at z; exact z.2)) hd hp hk hwr k1 ok hb hw call
/-- the law's def is called: nothing is tracked but the script -/
theorem law_callF {N : Nat} {P : Program} {w : World} {K : PySem.W.Frag} {mg mb : Str → Option Value} {CX : L2.CXT} {k : Nat} {fa a : Addr} {fd : FuncData} {x : Str} {sp : L2.Sp} {s : Shared} {vs : List Value} {ns : List Int}
    (KX : K.In s.heap) (hns : s.heap.Ns mainGlobals mg) (hb : s.heap.Ns builtinsNs mb) (hbb : ∀ x : Str, x ≠ "__name__" → mb x = bootBuiltins x) (hlim : s.heap.NoLimit) (hg : s.gens = #[])
    (ha : s.heap.get? a = some { cls := .type "list", data := .seq vs.toArray }) (hi : IntsAre vs ns) (hl : ns.length ≤ sizeLine) (hr : L2.Room k callerA) (hN : N ≤ s.toks)
    (F : ∀ base : Heap, K.In base → base.Ns mainGlobals mg → FnF N P w K mg base CX k fa fd [x] sp) (hbind : ∀ (s : Shared) (u : Value), BindsTo s fd ⟨[u], []⟩ [(x, u)])
    (hsp : ∀ H : L2.Hp, L2.Only H → L2.SqL K H a (ns.map L2.V.int) → sp [.ref a] H (fun v _ => v = .bl true) fun _ _ _ => False)
    (hCX : ∀ H e s', CX [] H s (fun _ _ _ => False) e s' → False) :
    codeAny (model P w) callerA (.call (.ref fa) ⟨[.ref a], []⟩) (fun r s' => r = .ok (.ret (.bool true)) ∧ OldK s.heap s'.heap ∧ s'.os = s.os ∧ AllBare s'.gens) s := by
  have rv := L2.vals_ints hi
  have main : ∀ H : L2.Hp, L2.Only H → L2.SqL K H a (ns.map L2.V.int) → L2.HOk P w H s.heap → (∀ b, H b ≠ none → b = a ∧ K.lookup b = none) →
      codeAny (model P w) callerA (.call (.ref fa) ⟨[.ref a], []⟩) (fun r s' => r = .ok (.ret (.bool true)) ∧ OldK s.heap s'.heap ∧ s'.os = s.os ∧ AllBare s'.gens) s := by
    intro H hO hS hok hA
    have ns1 : ∀ {b : Addr} {m : Str → Option Value}, s.heap.Ns b m → (L2.hidT s.heap H).Ns b m := by
      rintro b m ⟨o, es, ep, e, d, z⟩
      refine ⟨o, es, ep, L2.hidT_get e ?_, d, z⟩
      refine Classical.byContradiction fun q => ?_
      have := (hA b q).1
      subst this
      rw [ha] at e
      cases e
      have d : Data.seq vs.toArray _ = Data.dict es ep := d
      cases d
    have K1 : K.In (L2.hidT s.heap H) := fun b o e => L2.hidT_get (KX b o e) (Classical.byContradiction fun q => by rw [(hA b q).2] at e; cases e)
    have md : L2.Mod K mg (L2.hidT s.heap H) := ⟨K1, ns1 hns, ⟨mb, ns1 hb, hbb⟩, by obtain ⟨mc, c1, c2⟩ := hlim; exact ⟨mc, ns1 c1, c2⟩⟩
    have ev : L2.Env0 P w K mg (L2.hidT s.heap H) callerA [] s H := ⟨rfl, md, fun b o e => L2.of_hidT e, Nat.le_of_eq (L2.hidT_size _ _), trivial, (fun b z => by cases z), hok, .of_eq hg⟩
    refine codeAny_mono ((F _ K1 (ns1 hns)).run callerA [] s H ⟨[.ref a], []⟩ [.ref a] [.ref a] _ _ hN hr ev (hbind s (.ref a)) (.cons rfl .nil) (hsp H hO hS)) fun r s' h => ?_
    match r, h with
    | .error e, h => exact (hCX H e s' h).elim
    | .ok (.ret u), h =>
      obtain ⟨v, H', os, bare, un, hok', r', q⟩ := h
      have q : v = .bl true := q
      subst q
      cases r'
      refine ⟨rfl, OldK.of_keep fun b o e => ?_, os, bare⟩
      cases q : H b with
      | none => exact un.keep b o e q (fun z => by cases z) (fun z => by cases z)
      | some u =>
        rcases hO b with z | ⟨ob, xs, z⟩
        · rw [q] at z; cases z
        · obtain ⟨f1, _⟩ := hok b _ z
          obtain ⟨f2, _⟩ := hok' b _ (un.frzs b ob _ z)
          rw [e] at f1
          cases f1
          exact f2
  cases hk : K.lookup a with
  | some o =>
    have e := KX a o hk
    rw [ha] at e
    cases e
    exact main (fun _ => none) (fun _ => .inl rfl) (.inr ⟨_, vs.toArray, _, hk, rfl, rfl, rfl, by rw [List.size_toArray, hi.length]; exact hl, by simpa using rv⟩) (fun b u (z : (none : Option L2.HO) = some u) => by cases z) fun b z => absurd rfl z
  | none =>
    let o : Obj := { cls := .type "list", data := .seq vs.toArray }
    let G : L2.Hp := fun b => if b = a then some (.frz o (.lst (ns.map L2.V.int))) else none
    have Ga : G a = some (.frz o (.lst (ns.map L2.V.int))) := if_pos rfl
    have Gn : ∀ b, b ≠ a → G b = none := fun b h => if_neg h
    refine main G (fun b => ?_) (.inl (.inr ⟨o, Ga⟩)) (fun b u z => ?_) fun b z => ?_
    · by_cases h : b = a
      · exact .inr ⟨o, _, by rw [h]; exact Ga⟩
      · exact .inl (Gn b h)
    · by_cases h : b = a
      · subst h
        rw [Ga] at z
        cases z
        exact ⟨ha, by rw [List.length_map]; exact hl, vs, _, rv, ha⟩
      · rw [Gn b h] at z; cases z
    · by_cases h : b = a
      · exact ⟨h, by rw [h]; exact hk⟩
      · exact absurd (Gn b h) z
/-- the walk's end for a law whose defs want a floor under the tokens -/
theorem walk_ofT {l : PySem.W.OpenLaw} {H : Hook} {n k : Nat} {q : Program} {loose : List Str} {XP : (Str → Option Value) → Heap → Prop} {d : DefRec} {CX : L2.CXT} {x : Str}
    (hn : l.most = some n) (hn2 : n ≤ sizeLine) (hdf : d.params.defaults = []) (hr : L2.Room k callerA)
    (F : ∀ (w : World) (s₀ s₁ : Shared) (mg : Str → Option Value) (fa : Addr), Behind H w s₀ s₁ mg → H.says w s₁.heap → s₁.heap.Ns mainGlobals mg → mg d.name = some (.ref fa) →
      ∃ (K : PySem.W.Frag) (fd : FuncData) (sp : L2.Sp), K.In s₁.heap ∧ (∀ (s : Shared) (u : Value), BindsTo s fd ⟨[u], []⟩ [(x, u)]) ∧
        (∀ (H : L2.Hp) (a : Addr) (ns : List Int), ns.length ≤ n → L2.Only H → L2.SqL K H a (ns.map L2.V.int) → sp [.ref a] H (fun v _ => v = .bl true) fun _ _ _ => False) ∧
        ∀ base : Heap, K.In base → base.Ns mainGlobals mg → FnF s₁.toks l.prog w K mg base CX k fa fd [x] sp)
    (hCX : ∀ (H : L2.Hp) (s : Shared) (e : Value) (s' : Shared), CX [] H s (fun _ _ _ => False) e s' → False) : WalkT H q loose XP l.row.toRowW d [] := by
  intro w s₀ s₁ mg mb B G Y fa o pm cd doc dV kV ho hd hcd hD hmg hg args vals as hpre hlay hrd hwl hlo
  have v1 : dV = .none := Dflts.none hD hdf
  have v2 : kV = .none := Dflts.noKw hD
  subst v1 v2
  obtain ⟨a, vs, ns, rfl, rfl, hobj, hints, hlen⟩ := Att.script_of hn hpre hwl
  obtain ⟨K, fd, sp, KX, hb, hsp, hF⟩ := F w s₀ s₁ mg fa B Y G.T.g hmg
  have c := law_callF KX G.T.g G.T.b G.T.builtins G.T.nolimit hg hobj hints (Nat.le_trans hlen hn2) hr (Nat.le_refl _) hF hb (fun H hO hS => hsp H a ns hlen hO hS) fun H e s' => hCX H s₁ e s'
  refine PySem.W.enter_call (codeAny_mono c fun r s' hq => ?_)
  obtain ⟨rfl, e1, e2, e3⟩ := hq
  exact ⟨.inl ⟨.bool true, .bool true, [], rfl, (fun _ => rfl), .bool true, Att.post_true l _, fun _ => ⟨.nil, fun _ z => nomatch z⟩⟩, e1, e2, e3⟩
/-! ### a Hook that looks at a module's text and the tokens, too -/
def gapOk (y : Str) (k : Nat) : Option Value → Bool
  | some (.str x t) => (x == y) && ((!Nat.beq t 0) && Nat.blt t k)
  | _ => false
def hookTok (H0 : Hook) (x y : Str) : Hook where
  α := H0.α × Bool
  obs := fun s => (H0.obs s, gapOk y s.toks (s.heap.nsMap mainGlobals x))
  val := fun w => (H0.val w, true)
  says := H0.says
  of := fun w s e => H0.of w s (congrArg Prod.fst e)
  keeps := H0.keeps
def gapAt (g : Addr → Option Obj) (x : Str) : Option Value := match g mainGlobals with
  | some o => (match o.data with | .dict es _ => nsFind es x | _ => none)
  | none => none
def obTok {α : Type} (ob : SharedT → α) (x y : Str) (s : SharedT) : α × Bool := (ob s, gapOk y s.toks (gapAt (getT s) x))
theorem obTok_eq {H0 : Hook} {ob : SharedT → H0.α} (x y : Str) (h : ∀ s : SharedT, ob s = H0.obs s.abs) (s : SharedT) : obTok ob x y s = (hookTok H0 x y).obs s.abs := by
  show (ob s, gapOk y s.toks (gapAt (getT s) x)) = (H0.obs s.abs, gapOk y s.abs.toks (s.abs.heap.nsMap mainGlobals x))
  rw [h]
  have e : getT s = s.abs.heap.get? := funext (getT_eq s)
  rw [e]
  rfl
theorem fn_lawF {N : Nat} {P : Program} {w : World} {K : PySem.W.Frag} {mg : Str → Option Value} {base : Heap} {k : Nat} {f : Addr} {fd : FuncData} {ps : List Str} {sp : L2.Sp} (h : FnF N P w K mg base (L2.CX P w) k f fd ps sp) : FnF N P w K mg base L2.CX0 k f fd ps (fun vs H Q _ => sp vs H Q (fun _ _ _ => False)) :=
  ⟨fun vs H Q E z => h.len vs H Q _ z, fun A outer s H args us vs Q E hn hr e0 hb hv z => codeAny_mono (h.run A outer s H args us vs Q _ hn hr e0 hb hv z) fun r s' c => by
    match r, c with
    | .ok (.ret u), c => exact c
    | .error e, c => obtain ⟨_, _, _, _, _, _, _, _, _, _, _, _, z⟩ := c; exact z.elim⟩
theorem tokG_of {H0 : Hook} {x y : Str} {w : World} {s₀ s₁ : Shared} {mg : Str → Option Value} (B : Behind (hookTok H0 x y) w s₀ s₁ mg) : TokG s₁.toks mg x y := by
  have h : gapOk y s₀.toks (s₀.heap.nsMap mainGlobals x) = true := congrArg Prod.snd B.obs
  rw [← B.mg] at h
  unfold gapOk at h
  split at h
  · rename_i z t e
    simp only [Bool.and_eq_true, beq_iff_eq, Bool.not_eq_true'] at h
    obtain ⟨h1, h2, h3⟩ := h
    subst h1
    refine ⟨t, e, fun q => ?_, Nat.lt_of_lt_of_le (Nat.le_of_ble_eq_true h3) B.tok⟩
    rw [q] at h2
    cases h2
  · cases h
end GW

namespace K67
open PySem L2 PyProof.Rows GW
noncomputable section
def top (i : Nat) : Stmt := PySem.Challenge.pw_gapweave_k67_blocks_written.main.body.getD i (.Pass ⟨0, 0, 0, 0⟩)
structure CF_Block (K : PySem.W.Frag) (C : Addr) : Prop where
  cls : Cls K C
  n_rows : NoAttr K C "rows"
  ins : C8.InsC K C
structure BF (mg : Str → Option Value) : Prop where
  ValueError_ : mg "ValueError" = none
  all_ : mg "all" = none
  bool_ : mg "bool" = none
  dict_ : mg "dict" = none
  enumerate_ : mg "enumerate" = none
  int_ : mg "int" = none
  isinstance_ : mg "isinstance" = none
  len_ : mg "len" = none
  list_ : mg "list" = none
  max_ : mg "max" = none
  min_ : mg "min" = none
  ord_ : mg "ord" = none
  range_ : mg "range" = none
  str_ : mg "str" = none
  tuple_ : mg "tuple" = none
  zip_ : mg "zip" = none
abbrev exs : List Nat := [0, 1, 5, 9, 10, 11]
structure XF (P : Program) (w : World) (K : PySem.W.Frag) (mg : Str → Option Value) (base : Heap) : Prop where
  ef : EFs K exs
  n_WeaveError : mg "WeaveError" = some (.ref (ec K 0))
  n_NoPrices : mg "NoPrices" = some (.ref (ec K 1))
  n_NoBlock : mg "NoBlock" = some (.ref (ec K 5))
  n_NoSign : mg "NoSign" = some (.ref (ec K 9))
  n_NoNote : mg "NoNote" = some (.ref (ec K 10))
  n_NoText : mg "NoText" = some (.ref (ec K 11))
  o_NoBlock : EOwn K mg 5
  m_NoText : EMk P w K mg base 11 ["line"]
  gs_GAP : ∃ t, mg "GAP" = some (.str "-" t)
abbrev s_NoText_init : Stmt := clsItem (top 6) 0
def N_NoText_init : List Str := ["self", "line"]
theorem sc_NoText_init : FnScope N_NoText_init ["self", "line"] (defScope s_NoText_init) := ⟨rfl, rfl, rfl, by decide +kernel, rfl, by decide +kernel, by decide +kernel⟩
/-! is_sign -/
abbrev s_is_sign : Stmt := top 8
def N_is_sign : List Str := ["sign"]
theorem sc_is_sign : FnScope N_is_sign ["sign"] (defScope s_is_sign) := ⟨rfl, rfl, rfl, by decide +kernel, rfl, by decide +kernel, by decide +kernel⟩
abbrev T_is_sign : Nat → Nat := fun _ => 0
def m_is_sign (cs : Nat → Addr) : MS :=
  (sRet (mAndV (m3c (mC (.int 32)) (mCB (mCons (mVar 0) (ret (some []))) oOrd) (mC (.int 126)) oLe oLe) (m2 (mCB (mCons (mVar 0) (ret (some []))) oOrd) (mTup (mCons (mC (.int 34)) (mCons (mC (.int 37)) (mCons (mC (.int 45)) (ret (some [])))))) (oInQ true))))
def f_is_sign (cs : Nat → Addr) : List D → Option (Ot D) := fn0 1 (m_is_sign cs)
/-! things_fit -/
abbrev s_things_fit : Stmt := top 11
def N_things_fit : List Str := ["row", "thing"]
theorem sc_things_fit : FnScope N_things_fit ["row"] (defScope s_things_fit) := ⟨rfl, rfl, rfl, by decide +kernel, rfl, by decide +kernel, by decide +kernel⟩
abbrev T_things_fit : Nat → Nat := fun _ => 0
def b_things_fit_1 (cs : Nat → Addr) : MS :=
  (sIf (mAnd (mTest (m2 (mVar 1) (mC (.str "-")) oNe)) (mNot (mTest (mCall (pureF (f_is_sign cs)) (mCons (mVar 1) (ret (some []))))))) (sRet (mC (.bl false))) sNx)
def m_things_fit (cs : Nat → Addr) : MS :=
  (sSeq (sFor (mItA (mVar 0)) (.one 1) (b_things_fit_1 cs))
  (sRet (mC (.bl true))))
def f_things_fit (cs : Nat → Addr) : List D → Option (Ot D) := fn0 2 (m_things_fit cs)
/-! has_sign_at -/
abbrev s_has_sign_at : Stmt := top 12
def N_has_sign_at : List Str := ["rows", "column", "row"]
theorem sc_has_sign_at : FnScope N_has_sign_at ["rows", "column"] (defScope s_has_sign_at) := ⟨rfl, rfl, rfl, by decide +kernel, rfl, by decide +kernel, by decide +kernel⟩
abbrev T_has_sign_at : Nat → Nat := fun _ => 0
def b_has_sign_at_1 (cs : Nat → Addr) : MS :=
  (sIf (mTest (m2 (m2 (mVar 2) (mVar 1) oIx) (mC (.str "-")) oNe)) (sRet (mC (.bl true))) sNx)
def m_has_sign_at (cs : Nat → Addr) : MS :=
  (sSeq (sFor (mItA (mVar 0)) (.one 2) (b_has_sign_at_1 cs))
  (sRet (mC (.bl false))))
def f_has_sign_at (cs : Nat → Addr) : List D → Option (Ot D) := fn0 3 (m_has_sign_at cs)
/-! Block_init -/
abbrev s_Block_init : Stmt := clsItem (top 13) 0
def N_Block_init : List Str := ["self", "rows", "row", "column"]
theorem sc_Block_init : FnScope N_Block_init ["self", "rows"] (defScope s_Block_init) := ⟨rfl, rfl, rfl, by decide +kernel, rfl, by decide +kernel, by decide +kernel⟩
def T_Block_init : Nat → Nat := fun i => if i = 0 then 1 else 0
def b_Block_init_1 (cs : Nat → Addr) : MS :=
  (sIf (mOr (mTest (m2 (mCB (mCons (mVar 2) (ret (some []))) oLen) (mCB (mCons (m2 (mVar 1) (mC (.int 0)) oIx) (ret (some []))) oLen) oNe)) (mNot (mTest (mCall (pureF (f_things_fit cs)) (mCons (mVar 2) (ret (some []))))))) (sRaise 5) sNx)
def b_Block_init_2 (cs : Nat → Addr) : MS :=
  (sIf (mNot (mTest (mCall (pureF (f_has_sign_at cs)) (mCons (mVar 1) (mCons (mVar 3) (ret (some []))))))) (sRaise 5) sNx)
def m_Block_init (cs : Nat → Addr) : MS :=
  (sSeq (sIf (mTest (m2 (mCB (mCons (mVar 1) (ret (some []))) oLen) (mC (.int 0)) oEq)) (sRaise 5) sNx)
  (sSeq (sFor (mItA (mVar 1)) (.one 2) (b_Block_init_1 cs))
  (sSeq (sFor (mRng (mCons (mCB (mCons (m2 (mVar 1) (mC (.int 0)) oIx) (ret (some []))) oLen) (ret (some [])))) (.one 3) (b_Block_init_2 cs))
  (sSetF 0 (mCB (mCons (mVar 1) (ret (some []))) oTuple) (cs 0) "rows"))))
def f_Block_init (cs : Nat → Addr) : List D → Option (Ot D) := fnI (cs 0) 4 (m_Block_init cs)
/-! written_block -/
abbrev s_written_block : Stmt := top 15
def N_written_block : List Str := ["block"]
theorem sc_written_block : FnScope N_written_block ["block"] (defScope s_written_block) := ⟨rfl, rfl, rfl, by decide +kernel, rfl, by decide +kernel, by decide +kernel⟩
abbrev T_written_block : Nat → Nat := fun _ => 0
def m_written_block (cs : Nat → Addr) : MS :=
  (sRet (mM1 (mC (.str "\n")) (mCB (mCons (m1 (mVar 0) (oFld (cs 0) "rows")) (ret (some []))) oList) oJoin))
def f_written_block (cs : Nat → Addr) : List D → Option (Ot D) := fn0 1 (m_written_block cs)
/-! written_laying -/
abbrev s_written_laying : Stmt := top 16
def N_written_laying : List Str := ["first", "second", "moves", "rows", "i", "j", "move"]
theorem sc_written_laying : FnScope N_written_laying ["first", "second", "moves"] (defScope s_written_laying) := ⟨rfl, rfl, rfl, by decide +kernel, rfl, by decide +kernel, by decide +kernel⟩
def T_written_laying : Nat → Nat := fun i => if i = 3 then 1 else 0
def b_written_laying_1 (cs : Nat → Addr) : MS :=
  (sSeq (sIf (mTest (m2 (mVar 6) (mC (.str "b")) oEq)) (sAugI 3 (mPN 3) (mC (.int 0)) (mC (.str "-")) oAdd) (sSeq (sAugI 3 (mPN 3) (mC (.int 0)) (m2 (mVar 0) (mVar 4) oIx) oAdd)
  (sAug 4 (mC (.int 1)) oAdd)))
  (sIf (mTest (m2 (mVar 6) (mC (.str "a")) oEq)) (sAugI 3 (mPN 3) (mC (.int 1)) (mC (.str "-")) oAdd) (sSeq (sAugI 3 (mPN 3) (mC (.int 1)) (m2 (mVar 1) (mVar 5) oIx) oAdd)
  (sAug 5 (mC (.int 1)) oAdd))))
def m_written_laying (cs : Nat → Addr) : MS :=
  (sSeq (sSet 3 (mLst (mCons (mC (.str "")) (mCons (mC (.str "")) (ret (some []))))))
  (sSeq (sSet 4 (mC (.int 0)))
  (sSeq (sSet 5 (mC (.int 0)))
  (sSeq (sFor (mItA (mVar 2)) (.one 6) (b_written_laying_1 cs))
  (sRet (mM1 (mC (.str "\n")) (mVar 3) oJoin))))))
def f_written_laying (cs : Nat → Addr) : List D → Option (Ot D) := fn0 7 (m_written_laying cs)
/-! is_line -/
abbrev s_is_line : Stmt := top 17
def N_is_line : List Str := ["row", "sign"]
theorem sc_is_line : FnScope N_is_line ["row"] (defScope s_is_line) := ⟨rfl, rfl, rfl, by decide +kernel, rfl, by decide +kernel, by decide +kernel⟩
abbrev T_is_line : Nat → Nat := fun _ => 0
def m_is_line (cs : Nat → Addr) : MS :=
  (sRet (mCB (mCons (mLc (mItA (mVar 0)) (.one 1) mYes (mOrV (m2 (mVar 1) (mC (.str "-")) oEq) (mCall (pureF (f_is_sign cs)) (mCons (mVar 1) (ret (some []))))) [1]) (ret (some []))) oAll))
def f_is_line (cs : Nat → Addr) : List D → Option (Ot D) := fn0 2 (m_is_line cs)
/-! read_block -/
abbrev s_read_block : Stmt := top 18
def N_read_block : List Str := ["text", "rows", "number", "row"]
theorem sc_read_block : FnScope N_read_block ["text"] (defScope s_read_block) := ⟨rfl, rfl, rfl, by decide +kernel, rfl, by decide +kernel, by decide +kernel⟩
abbrev T_read_block : Nat → Nat := fun _ => 0
def b_read_block_1 (cs : Nat → Addr) : MS :=
  (sIf (mOr (mTest (m2 (mCB (mCons (mVar 3) (ret (some []))) oLen) (mCB (mCons (m2 (mVar 1) (mC (.int 0)) oIx) (ret (some []))) oLen) oNe)) (mNot (mTest (mCall (pureF (f_is_line cs)) (mCons (mVar 3) (ret (some []))))))) (sRaiseF 11 ["line"] (mCons (mVar 2) (ret (some [])))) sNx)
def m_read_block (cs : Nat → Addr) : MS :=
  (sSeq (sSet 1 (mM1 (mVar 0) (mC (.str "\n")) oSplit))
  (sSeq (sFor (mEnum (mCons (mVar 1) (ret (some [])))) (.tup [2, 3]) (b_read_block_1 cs))
  (sRet (mCall (pureF (f_Block_init cs)) (mCons (mVar 1) (ret (some [])))))))
def f_read_block (cs : Nat → Addr) : List D → Option (Ot D) := fn0 4 (m_read_block cs)
/-! read_laying -/
abbrev s_read_laying : Stmt := top 19
def N_read_laying : List Str := ["text", "block", "moves", "one", "other"]
theorem sc_read_laying : FnScope N_read_laying ["text"] (defScope s_read_laying) := ⟨rfl, rfl, rfl, by decide +kernel, rfl, by decide +kernel, by decide +kernel⟩
abbrev T_read_laying : Nat → Nat := fun _ => 0
def b_read_laying_1 (cs : Nat → Addr) : MS :=
  (sIf (mTest (m2 (mVar 4) (mC (.str "-")) oEq)) (sAug 2 (mC (.str "a")) oAdd) (sIf (mTest (m2 (mVar 3) (mC (.str "-")) oEq)) (sAug 2 (mC (.str "b")) oAdd) (sAug 2 (mC (.str "p")) oAdd)))
def m_read_laying (cs : Nat → Addr) : MS :=
  (sSeq (sIf (mTest (m2 (mCB (mCons (mM1 (mVar 0) (mC (.str "\n")) oSplit) (ret (some []))) oLen) (mC (.int 2)) oNe)) (sRaiseF 11 ["line"] (mCons (mC (.int 2)) (ret (some [])))) sNx)
  (sSeq (sSet 1 (mCall (pureF (f_read_block cs)) (mCons (mVar 0) (ret (some [])))))
  (sSeq (sSet 2 (mC (.str "")))
  (sSeq (sFor (mZip2 (mCons (m2 (m1 (mVar 1) (oFld (cs 0) "rows")) (mC (.int 0)) oIx) (mCons (m2 (m1 (mVar 1) (oFld (cs 0) "rows")) (mC (.int 1)) oIx) (ret (some []))))) (.tup [3, 4]) (b_read_laying_1 cs))
  (sRet (mTup (mCons (m1 (m2 (m1 (mVar 1) (oFld (cs 0) "rows")) (mC (.int 0)) oIx) (oRepl "-" "")) (mCons (m1 (m2 (m1 (mVar 1) (oFld (cs 0) "rows")) (mC (.int 1)) oIx) (oRepl "-" "")) (mCons (mVar 2) (ret (some [])))))))))))
def f_read_laying (cs : Nat → Addr) : List D → Option (Ot D) := fn0 5 (m_read_laying cs)
/-! _law_next -/
abbrev s__law_next : Stmt := top 21
def N__law_next : List Str := ["_law_script", "_law_at", "_law_cell", "_law_m"]
theorem sc__law_next : FnScope N__law_next ["_law_script", "_law_at"] (defScope s__law_next) := ⟨rfl, rfl, rfl, by decide +kernel, rfl, by decide +kernel, by decide +kernel⟩
abbrev T__law_next : Nat → Nat := fun _ => 0
def m__law_next (cs : Nat → Addr) : MS :=
  (sSeq (sCell (m2 mCell (mC (.int 1)) oAdd))
  (sSeq (sSet 2 (mC (.int 0)))
  (sSeq (sIf (mTest (m2 (mCB (mCons (mVar 0) (ret (some []))) oLen) (mC (.int 0)) oGt)) (sSet 2 (m2 (mVar 0) (m2 mCell (mCB (mCons (mVar 0) (ret (some []))) oLen) oMod) oIx)) sNx)
  (sSeq (sSet 3 (m2 (m2 (m2 (m2 (m2 (mVar 2) (mC (.int 2147483647)) oMod) (m2 (m2 mCell mCell oMul) (mC (.int 7919)) oMul) oAdd) (mC (.int 11)) oAdd) (mC (.int 48271)) oMul) (mC (.int 2147483647)) oMod))
  (sRet (m2 (m2 (mVar 3) (mVar 3) oMul) (mC (.int 1999999973)) oMod))))))
def f__law_next (cs : Nat → Addr) : FM := fnC 1 4 (m__law_next cs)
/-! _law_signs -/
abbrev s__law_signs : Stmt := top 22
def N__law_signs : List Str := ["_law_script", "_law_at", "_law_many", "_law_some", "_law_m", "_law_signs_here", "_law_k", "_law_made", "_law_sign"]
theorem sc__law_signs : FnScope N__law_signs ["_law_script", "_law_at", "_law_many"] (defScope s__law_signs) := ⟨rfl, rfl, rfl, by decide +kernel, rfl, by decide +kernel, by decide +kernel⟩
abbrev T__law_signs : Nat → Nat := fun _ => 0
def b__law_signs_1 (cs : Nat → Addr) : MS :=
  (sSet 5 (m2 (mVar 5) (m2 (mVar 3) (m2 (m2 (mVar 4) (m2 (mVar 6) (m2 (mC (.int 1)) (m2 (m2 (mVar 4) (mC (.int 92)) oDiv) (mC (.int 91)) oMod) oAdd) oMul) oAdd) (mC (.int 92)) oMod) oIx) oAdd))
def b__law_signs_2 (cs : Nat → Addr) : MS :=
  (sIf (mTest (m2 (mVar 8) (mVar 7) (oInS true))) (sSet 7 (m2 (mVar 7) (mVar 8) oAdd)) sNx)
def m__law_signs (cs : Nat → Addr) : MS :=
  (sSeq (sSet 3 (mC (.str " !#$&'()*+,./0123456789:;<=>?@ABCDEFGHIJKLMNOPQRSTUVWXYZ")))
  (sSeq (sSet 3 (m2 (mVar 3) (mC (.str "[\\]^_`abcdefghijklmnopqrstuvwxyz{|}~")) oAdd))
  (sSeq (sSet 4 (mCall (f__law_next cs) (mCons (mVar 0) (mCons (mC .non) (ret (some []))))))
  (sSeq (sSet 5 (mC (.str "")))
  (sSeq (sFor (mRng (mCons (mVar 2) (ret (some [])))) (.one 6) (b__law_signs_1 cs))
  (sSeq (sSet 7 (mC (.str "")))
  (sSeq (sFor (mItA (mVar 5)) (.one 8) (b__law_signs_2 cs))
  (sRet (mVar 7)))))))))
def f__law_signs (cs : Nat → Addr) : FM := fnC 1 9 (m__law_signs cs)
/-! _law_row -/
abbrev s__law_row : Stmt := top 23
def N__law_row : List Str := ["_law_script", "_law_at", "_law_signs_here", "_law_many", "_law_row_here", "_law_k"]
theorem sc__law_row : FnScope N__law_row ["_law_script", "_law_at", "_law_signs_here", "_law_many"] (defScope s__law_row) := ⟨rfl, rfl, rfl, by decide +kernel, rfl, by decide +kernel, by decide +kernel⟩
abbrev T__law_row : Nat → Nat := fun _ => 0
def b__law_row_1 (cs : Nat → Addr) : MS :=
  (sSet 4 (m2 (mVar 4) (m2 (mVar 2) (m2 (mCall (f__law_next cs) (mCons (mVar 0) (mCons (mC .non) (ret (some []))))) (mCB (mCons (mVar 2) (ret (some []))) oLen) oMod) oIx) oAdd))
def m__law_row (cs : Nat → Addr) : MS :=
  (sSeq (sSet 4 (mC (.str "")))
  (sSeq (sFor (mRng (mCons (mVar 3) (ret (some [])))) (.one 5) (b__law_row_1 cs))
  (sRet (mVar 4))))
def f__law_row (cs : Nat → Addr) : FM := fnC 1 6 (m__law_row cs)
/-! _law_same -/
abbrev s__law_same : Stmt := top 24
def N__law_same : List Str := ["_law_found", "_law_due", "_law_name", "_law_one_here", "_law_other"]
theorem sc__law_same : FnScope N__law_same ["_law_found", "_law_due"] (defScope s__law_same) := ⟨rfl, rfl, rfl, by decide +kernel, rfl, by decide +kernel, by decide +kernel⟩
abbrev T__law_same : Nat → Nat := fun _ => 0
def m__law_same (cs : Nat → Addr) (self : List D → Option (Ot D)) : MS :=
  (sSeq (sIf (mTest (m1 (mVar 1) (oIsi "dict"))) sNone sNx)
  (sSeq (sIf (mOr (mTest (m1 (mVar 1) (oIsi "list"))) (mTest (m1 (mVar 1) (oIsi "tuple")))) (sSeq (sIf (mAnd (mTest (m1 (mVar 1) (oIsi "list"))) (mNot (mTest (m1 (mVar 0) (oIsi "list"))))) (sRet (mC (.bl false))) sNx)
  (sSeq (sIf (mOr (mAnd (mTest (m1 (mVar 1) (oIsi "tuple"))) (mNot (mTest (m1 (mVar 0) (oIsi "tuple"))))) (mTest (m2 (mCB (mCons (mVar 0) (ret (some []))) oLen) (mCB (mCons (mVar 1) (ret (some []))) oLen) oNe))) (sRet (mC (.bl false))) sNx)
  (sRet (mCB (mCons (mLc (mZip2 (mCons (mVar 0) (mCons (mVar 1) (ret (some []))))) (.tup [3, 4]) mYes (mCall (pureF self) (mCons (mVar 3) (mCons (mVar 4) (ret (some []))))) [3, 4]) (ret (some []))) oAll)))) sNx)
  (sSeq (sIf (mTest (m1 (mVar 1) (oIsi "str"))) (sRet (mAndV (m1 (mVar 0) (oIsi "str")) (m2 (mVar 0) (mVar 1) oEq))) sNx)
  (sRet (mAndV (m1 (mVar 0) (oIsi "int")) (mAndV (m1 (m1 (mVar 0) (oIsi "bool")) oNotV) (m2 (mVar 0) (mVar 1) oEq)))))))
def f__law_same (cs : Nat → Addr) : Nat → List D → Option (Ot D)
  | 0 => fun _ => none
  | k + 1 => fn0 5 (m__law_same cs (f__law_same cs k))
/-! _law_columns -/
abbrev s__law_columns : Stmt := top 25
def N__law_columns : List Str := ["_law_script", "_law_at", "_law_signs_here", "_law_high", "_law_wide", "_law_rows", "_law_j", "_law_full", "_law_k", "_law_m"]
theorem sc__law_columns : FnScope N__law_columns ["_law_script", "_law_at", "_law_signs_here", "_law_high", "_law_wide"] (defScope s__law_columns) := ⟨rfl, rfl, rfl, by decide +kernel, rfl, by decide +kernel, by decide +kernel⟩
def T__law_columns : Nat → Nat := fun i => if i = 5 then 1 else 0
def b__law_columns_1 (cs : Nat → Addr) : MS :=
  (sSeq (sSet 9 (mCall (f__law_next cs) (mCons (mVar 0) (mCons (mC .non) (ret (some []))))))
  (sIf (mOr (mTest (m2 (mVar 8) (mVar 7) oEq)) (mTest (m2 (m2 (mVar 9) (mC (.int 5)) oMod) (mC (.int 3)) oLt))) (sSetI 5 (m2 (m2 (mVar 5) (mVar 8) oIx) (m2 (mVar 2) (m2 (m2 (mVar 9) (mC (.int 5)) oDiv) (mCB (mCons (mVar 2) (ret (some []))) oLen) oMod) oIx) oAdd) (mPN 5) (mVar 8)) (sSetI 5 (m2 (m2 (mVar 5) (mVar 8) oIx) (mC (.str "-")) oAdd) (mPN 5) (mVar 8))))
def b__law_columns_2 (cs : Nat → Addr) : MS :=
  (sSeq (sSet 7 (m2 (mCall (f__law_next cs) (mCons (mVar 0) (mCons (mC .non) (ret (some []))))) (mVar 3) oMod))
  (sFor (mRng (mCons (mVar 3) (ret (some [])))) (.one 8) (b__law_columns_1 cs)))
def m__law_columns (cs : Nat → Addr) : MS :=
  (sSeq (sSet 5 (mLc (mRng (mCons (mVar 3) (ret (some [])))) (.one 8) mYes (mC (.str "")) [8]))
  (sSeq (sFor (mRng (mCons (mVar 4) (ret (some [])))) (.one 6) (b__law_columns_2 cs))
  (sRet (mVar 5))))
def f__law_columns (cs : Nat → Addr) : FM := fnC 1 10 (m__law_columns cs)
/-! _law_told -/
abbrev s__law_told : Stmt := top 26
def N__law_told : List Str := ["_law_text", "_law_laying_here", "_law_told_here", "e"]
theorem sc__law_told : FnScope N__law_told ["_law_text", "_law_laying_here"] (defScope s__law_told) := ⟨rfl, rfl, rfl, by decide +kernel, rfl, by decide +kernel, by decide +kernel⟩
abbrev T__law_told : Nat → Nat := fun _ => 0
def b__law_told_1 (cs : Nat → Addr) : MS :=
  (sIf (mTest (mVar 1)) (sSet 2 (mTup (mCons (mC (.str "read")) (mCons (mCall (pureF (f_read_laying cs)) (mCons (mVar 0) (ret (some [])))) (ret (some [])))))) (sSet 2 (mTup (mCons (mC (.str "read")) (mCons (mCall (pureF (f_read_block cs)) (mCons (mVar 0) (ret (some [])))) (ret (some [])))))))
def m__law_told (cs : Nat → Addr) : MS :=
  (sSeq (sTry exs (b__law_told_1 cs) [(0, some 3, (sSet 2 (mTup (mCons (mC (.str "no")) (mCons (mVar 3) (ret (some [])))))))])
  (sSeq (sIf (mTest (m2 (m2 (mVar 2) (mC (.int 0)) oIx) (mC (.str "no")) oEq)) (sSeq (sIf (mOr (mTest (m1 (m2 (mVar 2) (mC (.int 1)) oIx) (oIsE exs [10, 1, 9]))) (mNot (mTest (m1 (m2 (mVar 2) (mC (.int 1)) oIx) (oIsV exs))))) (sRet (mTup (mCons (mC (.str "other")) (mCons (mC (.int 0)) (ret (some [])))))) sNx)
  (sSeq (sIf (mAnd (mTest (m1 (m2 (mVar 2) (mC (.int 1)) oIx) (oIsE exs [11]))) (mNot (mTest (m1 (m2 (mVar 2) (mC (.int 1)) oIx) (oIsE exs [5]))))) (sRet (mTup (mCons (mC (.str "text")) (mCons (m1 (m2 (mVar 2) (mC (.int 1)) oIx) (oFldE exs "line")) (ret (some [])))))) sNx)
  (sIf (mAnd (mTest (m1 (m2 (mVar 2) (mC (.int 1)) oIx) (oIsE exs [5]))) (mNot (mTest (m1 (m2 (mVar 2) (mC (.int 1)) oIx) (oIsE exs [11]))))) (sRet (mTup (mCons (mC (.str "block")) (mCons (mC (.int 0)) (ret (some [])))))) sNx))) sNx)
  (sRet (mVar 2))))
def f__law_told (cs : Nat → Addr) : List D → Option (Ot D) := fn0 4 (m__law_told cs)
/-! _law_spoilt -/
abbrev s__law_spoilt : Stmt := top 27
def N__law_spoilt : List Str := ["_law_script", "_law_at", "_law_rows", "_law_m", "_law_k", "_law_made", "_law_spot", "_law_due", "_law_j", "_law_row_here"]
theorem sc__law_spoilt : FnScope N__law_spoilt ["_law_script", "_law_at", "_law_rows"] (defScope s__law_spoilt) := ⟨rfl, rfl, rfl, by decide +kernel, rfl, by decide +kernel, by decide +kernel⟩
def T__law_spoilt : Nat → Nat := fun i => if i = 5 then 1 else 0
def m__law_spoilt (cs : Nat → Addr) : MS :=
  (sSeq (sSet 3 (mCall (f__law_next cs) (mCons (mVar 0) (mCons (mC .non) (ret (some []))))))
  (sSeq (sSet 4 (m2 (m2 (mVar 3) (mC (.int 6)) oDiv) (mCB (mCons (mVar 2) (ret (some []))) oLen) oMod))
  (sSeq (sSet 5 (mCB (mCons (mVar 2) (ret (some []))) oList))
  (sSeq (sIf (mAnd (mTest (m2 (m2 (mVar 3) (mC (.int 6)) oMod) (mC (.int 3)) oLt)) (mTest (m2 (mCB (mCons (m2 (mVar 2) (mC (.int 0)) oIx) (ret (some []))) oLen) (mC (.int 0)) oGt))) (sSeq (sSet 6 (m2 (m2 (mVar 3) (mC (.int 30)) oDiv) (mCB (mCons (m2 (mVar 2) (mC (.int 0)) oIx) (ret (some []))) oLen) oMod))
  (sSeq (sSetI 5 (m2 (m2 (mSl (m2 (mVar 2) (mVar 4) oIx) mNoPart (mPart (mVar 6))) (mC (.str "\"")) oAdd) (mSl (m2 (mVar 2) (mVar 4) oIx) (mPart (m2 (mVar 6) (mC (.int 1)) oAdd)) mNoPart) oAdd) (mPN 5) (mVar 4))
  (sSeq (sSet 7 (mVar 4))
  (sSeq (sSet 8 (m2 (m2 (mVar 3) (mC (.int 400)) oDiv) (mCB (mCons (mVar 2) (ret (some []))) oLen) oMod))
  (sSeq (sIf (mAnd (mTest (m2 (m2 (mVar 3) (mC (.int 6)) oMod) (mC (.int 1)) oEq)) (mTest (m2 (mCB (mCons (mVar 2) (ret (some []))) oLen) (mC (.int 1)) oGt))) (sSeq (sSetI 5 (m2 (m2 (mVar 5) (mVar 8) oIx) (mC (.str "A")) oAdd) (mPN 5) (mVar 8))
  (sSet 7 (mCB (mCons (mVar 4) (mCons (mCB (mCons (mVar 8) (mCons (mC (.int 1)) (ret (some [])))) oMax2) (ret (some [])))) oMin2))) sNx)
  (sFrz 5 (sSeq (sIf (mTest (m2 (m2 (mVar 3) (mC (.int 6)) oMod) (mC (.int 2)) oEq)) (sSet 5 (mLc (mItA (mVar 5)) (.one 9) mYes (m2 (mVar 9) (mC (.str "-")) oAdd) [9])) sNx)
  (sRet (mTup (mCons (mVar 5) (mCons (mTup (mCons (mC (.str "text")) (mCons (mVar 7) (ret (some []))))) (ret (some []))))))))))))) sNx)
  (sSeq (sIf (mAnd (mTest (m2 (m2 (mVar 3) (mC (.int 6)) oMod) (mC (.int 3)) oEq)) (mTest (m2 (mCB (mCons (mVar 2) (ret (some []))) oLen) (mC (.int 1)) oGt))) (sSeq (sSetI 5 (m2 (m2 (mVar 2) (mVar 4) oIx) (m2 (mLst (mCons (mC (.str "A")) (mCons (mC (.str "-")) (ret (some []))))) (m2 (m2 (mVar 3) (mC (.int 30)) oDiv) (mC (.int 2)) oMod) oIx) oAdd) (mPN 5) (mVar 4))
  (sRet (mTup (mCons (mVar 5) (mCons (mTup (mCons (mC (.str "text")) (mCons (mCB (mCons (mVar 4) (mCons (mC (.int 1)) (ret (some [])))) oMax2) (ret (some []))))) (ret (some []))))))) sNx)
  (sSeq (sIf (mAnd (mTest (m2 (m2 (mVar 3) (mC (.int 6)) oMod) (mC (.int 4)) oEq)) (mAnd (mTest (m2 (mCB (mCons (mVar 2) (ret (some []))) oLen) (mC (.int 1)) oGt)) (mTest (m2 (mCB (mCons (m2 (mVar 2) (mC (.int 0)) oIx) (ret (some []))) oLen) (mC (.int 0)) oGt)))) (sSeq (sSetI 5 (mSl (m2 (mVar 2) (mVar 4) oIx) (mPart (mC (.int 1))) mNoPart) (mPN 5) (mVar 4))
  (sRet (mTup (mCons (mVar 5) (mCons (mTup (mCons (mC (.str "text")) (mCons (mCB (mCons (mVar 4) (mCons (mC (.int 1)) (ret (some [])))) oMax2) (ret (some []))))) (ret (some []))))))) sNx)
  (sSeq (sSet 6 (m2 (m2 (mVar 3) (mC (.int 30)) oDiv) (m2 (mCB (mCons (m2 (mVar 2) (mC (.int 0)) oIx) (ret (some []))) oLen) (mC (.int 1)) oAdd) oMod))
  (sRet (mTup (mCons (mLc (mItA (mVar 2)) (.one 9) mYes (m2 (m2 (mSl (mVar 9) mNoPart (mPart (mVar 6))) (mC (.str "-")) oAdd) (mSl (mVar 9) (mPart (mVar 6)) mNoPart) oAdd) [9]) (mCons (mTup (mCons (mC (.str "block")) (mCons (mC (.int 0)) (ret (some []))))) (ret (some [])))))))))))))
def f__law_spoilt (cs : Nat → Addr) : FM := fnC 1 10 (m__law_spoilt cs)
/-! _law_laying -/
abbrev s__law_laying : Stmt := top 28
def N__law_laying : List Str := ["_law_script", "_law_at", "_law_signs_here", "_law_moves", "_law_rows", "_law_k", "_law_m", "_law_one_here", "_law_other", "_law_text", "_law_found", "_law_spoilt_here", "_law_due", "_law_strange"]
theorem sc__law_laying : FnScope N__law_laying ["_law_script", "_law_at", "_law_signs_here"] (defScope s__law_laying) := ⟨rfl, rfl, rfl, by decide +kernel, rfl, by decide +kernel, by decide +kernel⟩
abbrev T__law_laying : Nat → Nat := fun _ => 0
def b__law_laying_1 (cs : Nat → Addr) : MS :=
  (sSeq (sSet 6 (mCall (f__law_next cs) (mCons (mVar 0) (mCons (mC .non) (ret (some []))))))
  (sSeq (sSet 3 (m2 (mVar 3) (m2 (mC (.str "pab")) (m2 (mVar 6) (mC (.int 3)) oMod) oIx) oAdd))
  (sSeq (sSet 7 (m2 (mVar 2) (m2 (m2 (mVar 6) (mC (.int 3)) oDiv) (mCB (mCons (mVar 2) (ret (some []))) oLen) oMod) oIx))
  (sSeq (sSet 8 (m2 (mVar 2) (m2 (m2 (mVar 6) (mC (.int 300)) oDiv) (mCB (mCons (mVar 2) (ret (some []))) oLen) oMod) oIx))
  (sSeq (sIf (mTest (m2 (m2 (mVar 6) (mC (.int 3)) oMod) (mC (.int 1)) oEq)) (sSet 8 (mC (.str ""))) sNx)
  (sSeq (sIf (mTest (m2 (m2 (mVar 6) (mC (.int 3)) oMod) (mC (.int 2)) oEq)) (sSet 7 (mC (.str ""))) sNx)
  (sSet 4 (mLst (mCons (m2 (m2 (mVar 4) (mC (.int 0)) oIx) (mVar 7) oAdd) (mCons (m2 (m2 (mVar 4) (mC (.int 1)) oIx) (mVar 8) oAdd) (mCons (m2 (m2 (mVar 4) (mC (.int 2)) oIx) (mOrT (mVar 7) (mC (.str "-"))) oAdd) (mCons (m2 (m2 (mVar 4) (mC (.int 3)) oIx) (mOrT (mVar 8) (mC (.str "-"))) oAdd) (ret (some []))))))))))))))
def b__law_laying_2 (cs : Nat → Addr) : MS :=
  (sIf (mNot (mTest (mCall (pureF (f__law_same cs 4)) (mCons (mCall (pureF (f__law_told cs)) (mCons (mVar 13) (mCons (mC (.bl true)) (ret (some []))))) (mCons (mTup (mCons (mC (.str "text")) (mCons (mC (.int 2)) (ret (some []))))) (ret (some []))))))) (sRet (mC (.bl false))) sNx)
def m__law_laying (cs : Nat → Addr) : MS :=
  (sSeq (sSet 3 (mC (.str "")))
  (sSeq (sSet 4 (mLst (mCons (mC (.str "")) (mCons (mC (.str "")) (mCons (mC (.str "")) (mCons (mC (.str "")) (ret (some []))))))))
  (sSeq (sFor (mRng (mCons (m2 (mCall (f__law_next cs) (mCons (mVar 0) (mCons (mC .non) (ret (some []))))) (mC (.int 14)) oMod) (ret (some [])))) (.one 5) (b__law_laying_1 cs))
  (sSeq (sSet 9 (m2 (m2 (m2 (mVar 4) (mC (.int 2)) oIx) (mC (.str "\n")) oAdd) (m2 (mVar 4) (mC (.int 3)) oIx) oAdd))
  (sSeq (sSet 10 (mCall (pureF (f_written_laying cs)) (mCons (m2 (mVar 4) (mC (.int 0)) oIx) (mCons (m2 (mVar 4) (mC (.int 1)) oIx) (mCons (mVar 3) (ret (some [])))))))
  (sSeq (sIf (mOr (mNot (mTest (m1 (mVar 10) (oIsi "str")))) (mTest (m2 (mVar 10) (mVar 9) oNe))) (sRet (mC (.bl false))) sNx)
  (sSeq (sIf (mNot (mTest (mCall (pureF (f__law_same cs 4)) (mCons (mCall (pureF (f__law_told cs)) (mCons (mVar 9) (mCons (mC (.bl true)) (ret (some []))))) (mCons (mTup (mCons (mC (.str "read")) (mCons (mTup (mCons (m2 (mVar 4) (mC (.int 0)) oIx) (mCons (m2 (mVar 4) (mC (.int 1)) oIx) (mCons (mVar 3) (ret (some [])))))) (ret (some []))))) (ret (some []))))))) (sRet (mC (.bl false))) sNx)
  (sSeq (sAsg (.tup [11, 12]) (mCall (f__law_spoilt cs) (mCons (mVar 0) (mCons (mC .non) (mCons (mSl (mVar 4) (mPart (mC (.int 2))) mNoPart) (ret (some [])))))))
  (sSeq (sIf (mNot (mTest (mCall (pureF (f__law_same cs 4)) (mCons (mCall (pureF (f__law_told cs)) (mCons (mM1 (mC (.str "\n")) (mVar 11) oJoin) (mCons (mC (.bl true)) (ret (some []))))) (mCons (mVar 12) (ret (some []))))))) (sRet (mC (.bl false))) sNx)
  (sSeq (sFor (mItA (mLst (mCons (m2 (mVar 4) (mC (.int 2)) oIx) (mCons (m2 (m2 (mVar 9) (mC (.str "\n")) oAdd) (m2 (mVar 4) (mC (.int 2)) oIx) oAdd) (ret (some [])))))) (.one 13) (b__law_laying_2 cs))
  (sRet (mC (.bl true)))))))))))))
def f__law_laying (cs : Nat → Addr) : FM := fnC 1 14 (m__law_laying cs)
/-! _law_one -/
abbrev s__law_one : Stmt := top 29
def N__law_one : List Str := ["_law_script", "_law_at", "_law_signs_here", "_law_high", "_law_rows", "_law_text", "_law_found", "_law_spoilt_here", "_law_due", "_law_back"]
theorem sc__law_one : FnScope N__law_one ["_law_script", "_law_at"] (defScope s__law_one) := ⟨rfl, rfl, rfl, by decide +kernel, rfl, by decide +kernel, by decide +kernel⟩
abbrev T__law_one : Nat → Nat := fun _ => 0
def m__law_one (cs : Nat → Addr) : MS :=
  (sSeq (sSet 2 (mCall (f__law_signs cs) (mCons (mVar 0) (mCons (mC .non) (mCons (m2 (mC (.int 1)) (m2 (mCall (f__law_next cs) (mCons (mVar 0) (mCons (mC .non) (ret (some []))))) (mC (.int 6)) oMod) oAdd) (ret (some [])))))))
  (sSeq (sSet 3 (m2 (mC (.int 1)) (m2 (mCall (f__law_next cs) (mCons (mVar 0) (mCons (mC .non) (ret (some []))))) (mC (.int 5)) oMod) oAdd))
  (sSeq (sSet 4 (mCall (f__law_columns cs) (mCons (mVar 0) (mCons (mC .non) (mCons (mVar 2) (mCons (mVar 3) (mCons (m2 (mCall (f__law_next cs) (mCons (mVar 0) (mCons (mC .non) (ret (some []))))) (mC (.int 13)) oMod) (ret (some [])))))))))
  (sSeq (sSet 5 (mM1 (mC (.str "\n")) (mVar 4) oJoin))
  (sSeq (sSet 6 (mCall (pureF (f_written_block cs)) (mCons (mCall (pureF (f_Block_init cs)) (mCons (mVar 4) (ret (some [])))) (ret (some [])))))
  (sSeq (sIf (mOr (mNot (mTest (m1 (mVar 6) (oIsi "str")))) (mTest (m2 (mVar 6) (mVar 5) oNe))) (sRet (mC (.bl false))) sNx)
  (sSeq (sAsg (.tup [7, 8]) (mCall (f__law_spoilt cs) (mCons (mVar 0) (mCons (mC .non) (mCons (mVar 4) (ret (some [])))))))
  (sSeq (sIf (mNot (mTest (mCall (pureF (f__law_same cs 4)) (mCons (mCall (pureF (f__law_told cs)) (mCons (mM1 (mC (.str "\n")) (mVar 7) oJoin) (mCons (mC (.bl false)) (ret (some []))))) (mCons (mVar 8) (ret (some []))))))) (sRet (mC (.bl false))) sNx)
  (sSeq (sSet 9 (mCall (pureF (f__law_told cs)) (mCons (mVar 5) (mCons (mC (.bl false)) (ret (some []))))))
  (sSeq (sIf (mOr (mTest (m2 (m2 (mVar 9) (mC (.int 0)) oIx) (mC (.str "read")) oNe)) (mOr (mNot (mTest (m1 (m2 (mVar 9) (mC (.int 1)) oIx) (oIsC (cs 0))))) (mNot (mTest (mCall (pureF (f__law_same cs 4)) (mCons (m1 (m2 (mVar 9) (mC (.int 1)) oIx) (oFld (cs 0) "rows")) (mCons (mCB (mCons (mVar 4) (ret (some []))) oTuple) (ret (some []))))))))) (sRet (mC (.bl false))) sNx)
  (sRet (mCall (f__law_laying cs) (mCons (mVar 0) (mCons (mC .non) (mCons (mVar 2) (ret (some [])))))))))))))))))
def f__law_one (cs : Nat → Addr) : FM := fnC 1 10 (m__law_one cs)
/-! law -/
abbrev s_law : Stmt := top 30
def N_law : List Str := ["_law_script", "_law_at", "_law_turn"]
theorem sc_law : FnScope N_law ["_law_script"] (defScope s_law) := ⟨rfl, rfl, rfl, by decide +kernel, rfl, by decide +kernel, by decide +kernel⟩
abbrev T_law : Nat → Nat := fun _ => 0
def b_law_1 (cs : Nat → Addr) : MS :=
  (sIf (mNot (mTest (mCall (f__law_one cs) (mCons (mVar 0) (mCons (mC .non) (ret (some []))))))) (sRet (mC (.bl false))) sNx)
def m_law (cs : Nat → Addr) : MS :=
  (sNewCell 1 0 (sSeq (sFor (mRng (mCons (m2 (mC (.int 1)) (mCB (mCons (mC (.int 2)) (mCons (m2 (mCB (mCons (mVar 0) (ret (some []))) oLen) (mC (.int 16)) oDiv) (ret (some [])))) oMin2) oAdd) (ret (some [])))) (.one 2) (b_law_1 cs))
  (sRet (mC (.bl true)))))
def f_law (cs : Nat → Addr) : List D → Option (Ot D) := fn0 3 (m_law cs)
end
end K67

namespace K67
open PySem L2 PyProof.Rows GW
section
variable {P : Program} {w : World} {K : PySem.W.Frag} {mg : Str → Option Value} {base : Heap} {cs : Nat → Addr}
theorem ok_NoText_init {f : Addr} {fd : FuncData} (Fu : FunD K "__init__" "NoText.__init__" (defArgs s_NoText_init) (defBody s_NoText_init) (defScope s_NoText_init) [] [] f fd) (T : OexC K (ec K 11)) (n0 : PySem.W.findIn K (.ref (ec K 11)) "line" = some none) : ∃ (fd : FuncData) (ps : List Str), FnOk P w K mg base (L2.CX P w) 1 f fd ps (spX K (ec K 11) ["line"]) ∧ Binds K fd ps [] :=
  ⟨fd, ["self", "line"], def_okX1 (N := N_NoText_init) Fu sc_NoText_init rfl T n0 (fun cdv A outer s H E => (pss_one (ps_ost (pv 0) (pv 1)))), (Fu.bindsN fun _ _ _ _ _ _ us hl => match us, hl with | [_, _], _ => rfl)⟩
theorem ok_is_sign {f : Addr} {fd : FuncData} (Fu : FunD K "is_sign" "is_sign" (defArgs s_is_sign) (defBody s_is_sign) (defScope s_is_sign) [] [] f fd) (hm : mg "is_sign" = some (.ref f)) (bl : BF mg) (xf : XF P w K mg base)     : Av P w K mg base "is_sign" ["sign"] 1 (spM K none 1 0 (pureF (f_is_sign cs))) :=
  ⟨f, fd, hm, Fu.kp, (Fu.bindsN fun _ _ _ _ _ _ us hl => match us, hl with | [_], _ => rfl), def_ok0 (N := N_is_sign) (T := T_is_sign) (ms := m_is_sign cs) Fu sc_is_sign (by first | (exact fun _ _ => rfl) | decide) (fun cdv A outer s H E hr => by
      exact (ws_one (ws_ret (ve_and (ve_chain op_le os_cmp op_le os_cmp ve_int (ve_ord bl.ord_ (va_cons (ve_var (pv 0) (.inl rfl)) va_nil)) ve_int) (ve_one (ve_cmp op_notIn_seq os_inQ (ve_ord bl.ord_ (va_cons (ve_var (pv 0) (.inl rfl)) va_nil)) (ve_tup (va_cons ve_int (va_cons ve_int (va_cons ve_int va_nil)))) rfl))))))⟩
theorem ok_things_fit {f : Addr} {fd : FuncData} (Fu : FunD K "things_fit" "things_fit" (defArgs s_things_fit) (defBody s_things_fit) (defScope s_things_fit) [] [] f fd) (hm : mg "things_fit" = some (.ref f)) (bl : BF mg) (xf : XF P w K mg base) (A_is_sign : Av P w K mg base "is_sign" ["sign"] 1 (spM K none 1 0 (pureF (f_is_sign cs))))    : Av P w K mg base "things_fit" ["row"] 2 (spM K none 1 0 (pureF (f_things_fit cs))) :=
  ⟨f, fd, hm, Fu.kp, (Fu.bindsN fun _ _ _ _ _ _ us hl => match us, hl with | [_], _ => rfl), def_ok0 (N := N_things_fit) (T := T_things_fit) (ms := m_things_fit cs) Fu sc_things_fit (by first | (exact fun _ _ => rfl) | decide) (fun cdv A outer s H E hr => by
      exact (ws_cons (ws_for (passes_of rfl) (vi_any (ve_var (pv 0) (.inl rfl))) (vg_name (i := 1) ⟨rfl, rfl⟩ sc_things_fit.nd) (ws_one (ws_if ((vw_and (vt_cmp op_ne os_ne (ve_var (pv 1) (.inl rfl)) (ve_gstr xf.gs_GAP) (nomark _)) (vw_one_and (vt_not (vt_val (ve_bo (k := 0) (ve_callA A_is_sign (fun _ => ⟨_, rfl⟩) (hr.mono (by first | decide | omega)) (takes_of rfl rfl rfl rfl) (vc_all (va_cons (ve_var (pv 1) (.inl rfl)) va_nil)) (LenM.cons LenM.nil)))))))).pt (ws_one (ws_ret ve_bl)) ws_nil)))
  (ws_one (ws_ret ve_bl))))⟩
theorem ok_has_sign_at {f : Addr} {fd : FuncData} (Fu : FunD K "has_sign_at" "has_sign_at" (defArgs s_has_sign_at) (defBody s_has_sign_at) (defScope s_has_sign_at) [] [] f fd) (hm : mg "has_sign_at" = some (.ref f)) (bl : BF mg) (xf : XF P w K mg base)     : Av P w K mg base "has_sign_at" ["rows", "column"] 1 (spM K none 2 0 (pureF (f_has_sign_at cs))) :=
  ⟨f, fd, hm, Fu.kp, (Fu.bindsN fun _ _ _ _ _ _ us hl => match us, hl with | [_, _], _ => rfl), def_ok0 (N := N_has_sign_at) (T := T_has_sign_at) (ms := m_has_sign_at cs) Fu sc_has_sign_at (by first | (exact fun _ _ => rfl) | decide) (fun cdv A outer s H E hr => by
      exact (ws_cons (ws_for (passes_of rfl) (vi_any (ve_var (pv 0) (.inl rfl))) (vg_name (i := 2) ⟨rfl, rfl⟩ sc_has_sign_at.nd) (ws_one (ws_if (vt_cmp op_ne os_ne (ve_ix (ve_var (pv 2) (.inl rfl)) (ve_var (pv 1) (.inl rfl))) (ve_gstr xf.gs_GAP) (nomark _)) (ws_one (ws_ret ve_bl)) ws_nil)))
  (ws_one (ws_ret ve_bl))))⟩
theorem ok_Block_init {f : Addr} {fd : FuncData} (Fu : FunD K "__init__" "Block.__init__" (defArgs s_Block_init) (defBody s_Block_init) (defScope s_Block_init) [] [] f fd) (hm : mg "Block" = some (.ref (cs 0))) (hk : L2.Mk K (cs 0) f) (bl : BF mg) (xf : XF P w K mg base) (A_has_sign_at : Av P w K mg base "has_sign_at" ["rows", "column"] 1 (spM K none 2 0 (pureF (f_has_sign_at cs)))) (A_things_fit : Av P w K mg base "things_fit" ["row"] 2 (spM K none 1 0 (pureF (f_things_fit cs))))  (c_Block : CF_Block K (cs 0))  : AvC P w K mg base "Block" (cs 0) ["self", "rows"] 3 (spI K (cs 0) 1 1 (f_Block_init cs)) :=
  ⟨f, fd, hm, hk, (Fu.bindsN fun _ _ _ _ _ _ us hl => match us, hl with | [_, _], _ => rfl), def_okI (N := N_Block_init) (T := T_Block_init) (ms := m_Block_init cs) (np := 1) (cs 0) Fu sc_Block_init rfl (by decide) rfl (by decide) (fun cdv A outer s H E a hr => by
      exact (ws_cons (ws_if (vt_cmp op_eq os_eq (ve_len bl.len_ (va_cons (ve_var (pv 1) (.inl rfl)) va_nil)) ve_int (nomark _)) (ws_one (ws_raise rfl (takes_of rfl rfl rfl rfl) xf.o_NoBlock)) ws_nil)
  (ws_cons (ws_for (passes_of rfl) (vi_any (ve_var (pv 1) (.inl rfl))) (vg_name (i := 2) ⟨rfl, rfl⟩ sc_Block_init.nd) (ws_one (ws_if ((vw_or (vt_cmp op_ne os_ne (ve_len bl.len_ (va_cons (ve_var (pv 2) (.inl rfl)) va_nil)) (ve_len bl.len_ (va_cons (ve_ix (ve_var (pv 1) (.inl rfl)) ve_int) va_nil)) (nomark _)) (vw_one_or (vt_not (vt_val (ve_bo (k := 0) (ve_callA A_things_fit (fun _ => ⟨_, rfl⟩) (hr.mono (by first | decide | omega)) (takes_of rfl rfl rfl rfl) (vc_all (va_cons (ve_var (pv 2) (.inl rfl)) va_nil)) (LenM.cons LenM.nil)))))))).pt (ws_one (ws_raise rfl (takes_of rfl rfl rfl rfl) xf.o_NoBlock)) ws_nil)))
  (ws_cons (ws_for (passes_of rfl) (vi_range1 bl.range_ (va_cons (ve_len bl.len_ (va_cons (ve_ix (ve_var (pv 1) (.inl rfl)) ve_int) va_nil)) va_nil)) (vg_name (i := 3) ⟨rfl, rfl⟩ sc_Block_init.nd) (ws_one (ws_if (vt_not (vt_val (ve_bo (k := 0) (ve_callA A_has_sign_at (fun _ => ⟨_, rfl⟩) (hr.mono (by first | decide | omega)) (takes_of rfl rfl rfl rfl) (vc_all (va_cons (ve_var (pv 1) (.inl rfl)) (va_cons (ve_var (pv 3) (.inl rfl)) va_nil))) (LenM.cons (LenM.cons LenM.nil)))))) (ws_one (ws_raise rfl (takes_of rfl rfl rfl rfl) xf.o_NoBlock)) ws_nil)))
  (ws_one (ws_setf (k := 0) c_Block.cls c_Block.n_rows (ve_tuple bl.tuple_ (va_cons (ve_var (pv 1) (.inl rfl)) va_nil)) (pv 0) rfl))))))⟩
theorem ok_written_block {f : Addr} {fd : FuncData} (Fu : FunD K "written_block" "written_block" (defArgs s_written_block) (defBody s_written_block) (defScope s_written_block) [] [] f fd) (hm : mg "written_block" = some (.ref f)) (bl : BF mg) (xf : XF P w K mg base)   (c_Block : CF_Block K (cs 0))  : Av P w K mg base "written_block" ["block"] 1 (spM K none 1 0 (pureF (f_written_block cs))) :=
  ⟨f, fd, hm, Fu.kp, (Fu.bindsN fun _ _ _ _ _ _ us hl => match us, hl with | [_], _ => rfl), def_ok0 (N := N_written_block) (T := T_written_block) (ms := m_written_block cs) Fu sc_written_block (by first | (exact fun _ _ => rfl) | decide) (fun cdv A outer s H E hr => by
      exact (ws_one (ws_ret (ve_join ve_str (ve_bo (k := 1) (ve_list bl.list_ (va_cons (ve_fld c_Block.cls c_Block.n_rows (ve_var (pv 0) (.inl rfl))) va_nil)))))))⟩
theorem ok_written_laying {f : Addr} {fd : FuncData} (Fu : FunD K "written_laying" "written_laying" (defArgs s_written_laying) (defBody s_written_laying) (defScope s_written_laying) [] [] f fd) (hm : mg "written_laying" = some (.ref f)) (bl : BF mg) (xf : XF P w K mg base)     : Av P w K mg base "written_laying" ["first", "second", "moves"] 1 (spM K none 3 0 (pureF (f_written_laying cs))) :=
  ⟨f, fd, hm, Fu.kp, (Fu.bindsN fun _ _ _ _ _ _ us hl => match us, hl with | [_, _, _], _ => rfl), def_ok0 (N := N_written_laying) (T := T_written_laying) (ms := m_written_laying cs) Fu sc_written_laying (by first | (exact fun _ _ => rfl) | decide) (fun cdv A outer s H E hr => by
      exact (ws_cons (ws_set (i := 3) (ve_lst1 (va_cons ve_str (va_cons ve_str va_nil))) rfl rfl sc_written_laying.nd)
  (ws_cons (ws_set (i := 4) ve_int rfl rfl sc_written_laying.nd)
  (ws_cons (ws_set (i := 5) ve_int rfl rfl sc_written_laying.nd)
  (ws_cons (ws_for (passes_of rfl) (vi_any (ve_var (pv 2) (.inl rfl))) (vg_name (i := 6) ⟨rfl, rfl⟩ sc_written_laying.nd) (ws_cons (ws_if (vt_cmp op_eq os_eq (ve_var (pv 6) (.inl rfl)) ve_str (nomark _)) (ws_one (ws_augI iop_addIS os_add (pl_nil (k := 0) (pv 3) rfl) plt_nil rfl ve_int ve_str)) (ws_cons (ws_augI iop_addIS os_add (pl_nil (k := 0) (pv 3) rfl) plt_nil rfl ve_int (ve_ix (ve_var (pv 0) (.inl rfl)) (ve_var (pv 4) (.inl rfl))))
  (ws_one (ws_aug (i := 4) iop_addIS os_add ve_int rfl rfl sc_written_laying.nd))))
  (ws_one (ws_if (vt_cmp op_eq os_eq (ve_var (pv 6) (.inl rfl)) ve_str (nomark _)) (ws_one (ws_augI iop_addIS os_add (pl_nil (k := 0) (pv 3) rfl) plt_nil rfl ve_int ve_str)) (ws_cons (ws_augI iop_addIS os_add (pl_nil (k := 0) (pv 3) rfl) plt_nil rfl ve_int (ve_ix (ve_var (pv 1) (.inl rfl)) (ve_var (pv 5) (.inl rfl))))
  (ws_one (ws_aug (i := 5) iop_addIS os_add ve_int rfl rfl sc_written_laying.nd)))))))
  (ws_one (ws_ret (ve_join ve_str (ve_var (pv 3) (.inl rfl))))))))))⟩
theorem ok_is_line {f : Addr} {fd : FuncData} (Fu : FunD K "is_line" "is_line" (defArgs s_is_line) (defBody s_is_line) (defScope s_is_line) [] [] f fd) (hm : mg "is_line" = some (.ref f)) (bl : BF mg) (xf : XF P w K mg base) (A_is_sign : Av P w K mg base "is_sign" ["sign"] 1 (spM K none 1 0 (pureF (f_is_sign cs))))    : Av P w K mg base "is_line" ["row"] 2 (spM K none 1 0 (pureF (f_is_line cs))) :=
  ⟨f, fd, hm, Fu.kp, (Fu.bindsN fun _ _ _ _ _ _ us hl => match us, hl with | [_], _ => rfl), def_ok0 (N := N_is_line) (T := T_is_line) (ms := m_is_line cs) Fu sc_is_line (by first | (exact fun _ _ => rfl) | decide) (fun cdv A outer s H E hr => by
      exact (ws_one (ws_ret (ve_all bl.all_ (va_cons (ve_bo (k := 1) (ve_lc (own := [("sign", 1)]) (vi_any (ve_var (pv 0) (.inl rfl))) (blkOk_by (own := [("sign", 1)]) (N := N_is_line) (sc := (defScope s_is_line)) (by decide +kernel)) (fun _ _ _ _ _ => (vg_name (i := 1) ⟨rfl, rfl⟩ sc_is_line.nd)) (fun _ _ _ _ _ => vts_nil) (fun _ _ _ _ _ => (ve_or (ve_cmp op_eq os_eq (ve_var (pv 1) (.inl rfl)) ve_str (nomark _)) (ve_one (ve_callA A_is_sign (fun _ => ⟨_, rfl⟩) (hr.mono (by first | decide | omega)) takes0 (vc_all (va_cons (ve_var (pv 1) (.inl rfl)) va_nil)) (LenM.cons LenM.nil))))) (by decide) (fun i hi => by first | rfl | (simp at hi; subst hi; rfl) | (simp at hi; rcases hi with hi | hi <;> subst hi <;> rfl)) sc_is_line.nd)) va_nil)))))⟩
theorem ok_read_block {f : Addr} {fd : FuncData} (Fu : FunD K "read_block" "read_block" (defArgs s_read_block) (defBody s_read_block) (defScope s_read_block) [] [] f fd) (hm : mg "read_block" = some (.ref f)) (bl : BF mg) (xf : XF P w K mg base) (A_Block_init : AvC P w K mg base "Block" (cs 0) ["self", "rows"] 3 (spI K (cs 0) 1 1 (f_Block_init cs))) (A_is_line : Av P w K mg base "is_line" ["row"] 2 (spM K none 1 0 (pureF (f_is_line cs))))    : Av P w K mg base "read_block" ["text"] 5 (spM K none 1 0 (pureF (f_read_block cs))) :=
  ⟨f, fd, hm, Fu.kp, (Fu.bindsN fun _ _ _ _ _ _ us hl => match us, hl with | [_], _ => rfl), def_ok0 (N := N_read_block) (T := T_read_block) (ms := m_read_block cs) Fu sc_read_block (by first | (exact fun _ _ => rfl) | decide) (fun cdv A outer s H E hr => by
      exact (ws_cons (ws_set (i := 1) (ve_frz (k := 1) (ve_split (ve_var (pv 0) (.inl rfl)) ve_str)) rfl rfl sc_read_block.nd)
  (ws_cons (ws_for (passes_of rfl) (vi_enum bl.enumerate_ (va_cons (ve_var (pv 1) (.inl rfl)) va_nil)) (vg_tup rfl (vgs_cons (i := 2) ⟨rfl, rfl⟩ sc_read_block.nd (vgs_cons (i := 3) ⟨rfl, rfl⟩ sc_read_block.nd vgs_nil))) (ws_one (ws_if ((vw_or (vt_cmp op_ne os_ne (ve_len bl.len_ (va_cons (ve_var (pv 3) (.inl rfl)) va_nil)) (ve_len bl.len_ (va_cons (ve_ix (ve_var (pv 1) (.inl rfl)) ve_int) va_nil)) (nomark _)) (vw_one_or (vt_not (vt_val (ve_bo (k := 0) (ve_callA A_is_line (fun _ => ⟨_, rfl⟩) (hr.mono (by first | decide | omega)) (takes_of rfl rfl rfl rfl) (vc_all (va_cons (ve_var (pv 3) (.inl rfl)) va_nil)) (LenM.cons LenM.nil)))))))).pt (ws_one (ws_raiseF rfl (takes_of rfl rfl rfl rfl) xf.m_NoText (xf.ef.ex 11 (by decide)) (by decide) (hr.mono (by first | decide | omega)) (va_cons (ve_var (pv 2) (.inl rfl)) va_nil))) ws_nil)))
  (ws_one (ws_ret (ve_frz (k := 1) (ve_make A_Block_init (hr.mono (by first | decide | omega)) (takes_of rfl rfl rfl rfl) (va_cons (ve_var (pv 1) (.inl rfl)) va_nil) (LenM.cons LenM.nil))))))))⟩
theorem ok_read_laying {f : Addr} {fd : FuncData} (Fu : FunD K "read_laying" "read_laying" (defArgs s_read_laying) (defBody s_read_laying) (defScope s_read_laying) [] [] f fd) (hm : mg "read_laying" = some (.ref f)) (bl : BF mg) (xf : XF P w K mg base) (A_read_block : Av P w K mg base "read_block" ["text"] 5 (spM K none 1 0 (pureF (f_read_block cs))))  (c_Block : CF_Block K (cs 0))  : Av P w K mg base "read_laying" ["text"] 6 (spM K none 1 0 (pureF (f_read_laying cs))) :=
  ⟨f, fd, hm, Fu.kp, (Fu.bindsN fun _ _ _ _ _ _ us hl => match us, hl with | [_], _ => rfl), def_ok0T (N := N_read_laying) (T := T_read_laying) (ms := m_read_laying cs) Fu sc_read_laying (by decide +kernel) (by decide) (by first | (exact fun _ _ => rfl) | decide) (fun cdv A outer s H E hr => by
      exact (wst_cons (wst_of (ws_if (vt_cmp op_ne os_ne (ve_len bl.len_ (va_cons (ve_bo (k := 1) (ve_split (ve_var (pv 0) (.inl rfl)) ve_str)) va_nil)) ve_int (nomark _)) (ws_one (ws_raiseF rfl (takes_of rfl rfl rfl rfl) xf.m_NoText (xf.ef.ex 11 (by decide)) (by decide) (hr.mono (by first | decide | omega)) (va_cons ve_int va_nil))) ws_nil))
  (wst_cons (wst_of (ws_set (i := 1) (ve_callA A_read_block (fun _ => ⟨_, rfl⟩) (hr.mono (by first | decide | omega)) (takes_of rfl rfl rfl rfl) (vc_all (va_cons (ve_var (pv 0) (.inl rfl)) va_nil)) (LenM.cons LenM.nil)) rfl rfl sc_read_laying.nd))
  (wst_cons (wst_of (ws_set (i := 2) ve_str rfl rfl sc_read_laying.nd))
  (wst_cons (wst_of (ws_for (passes_of rfl) (vi_zip2 bl.zip_ (va_cons (ve_ix (ve_fld c_Block.cls c_Block.n_rows (ve_var (pv 1) (.inl rfl))) ve_int) (va_cons (ve_ix (ve_fld c_Block.cls c_Block.n_rows (ve_var (pv 1) (.inl rfl))) ve_int) va_nil))) (vg_tup rfl (vgs_cons (i := 3) ⟨rfl, rfl⟩ sc_read_laying.nd (vgs_cons (i := 4) ⟨rfl, rfl⟩ sc_read_laying.nd vgs_nil))) (ws_one (ws_if (vt_cmp op_eq os_eq (ve_var (pv 4) (.inl rfl)) ve_str (nomark _)) (ws_one (ws_aug (i := 2) iop_addIS os_add ve_str rfl rfl sc_read_laying.nd)) (ws_one (ws_if (vt_cmp op_eq os_eq (ve_var (pv 3) (.inl rfl)) ve_str (nomark _)) (ws_one (ws_aug (i := 2) iop_addIS os_add ve_str rfl rfl sc_read_laying.nd)) (ws_one (ws_aug (i := 2) iop_addIS os_add ve_str rfl rfl sc_read_laying.nd))))))))
  (wst_one (wst_ret (vet_tup (vat_cons (vet_repl (CwR.PET.of (ve_ix (ve_fld c_Block.cls c_Block.n_rows (ve_var (pv 1) (.inl rfl))) ve_int))) (vat_cons (vet_repl (CwR.PET.of (ve_ix (ve_fld c_Block.cls c_Block.n_rows (ve_var (pv 1) (.inl rfl))) ve_int))) (vat_cons (CwR.PET.of (ve_var (pv 2) (.inl rfl))) vat_nil)))))))))))⟩
theorem ok__law_next {f : Addr} {fd : FuncData} (Fu : FunD K "_law_next" "_law_next" (defArgs s__law_next) (defBody s__law_next) (defScope s__law_next) [] [] f fd) (hm : mg "_law_next" = some (.ref f)) (bl : BF mg) (xf : XF P w K mg base)     : Av P w K mg base "_law_next" ["_law_script", "_law_at"] 1 (spM K (some 1) 2 0 (f__law_next cs)) :=
  ⟨f, fd, hm, Fu.kp, (Fu.bindsN fun _ _ _ _ _ _ us hl => match us, hl with | [_, _], _ => rfl), def_okC (N := N__law_next) (T := T__law_next) (ms := m__law_next cs) 1 (by decide) Fu sc__law_next (by first | (exact fun _ _ => rfl) | decide) (fun cdv A outer s H E a hr => by
      exact (ws_cons (ws_cell (ve_op op_addIS os_add (ve_cell (pv 1) ⟨_, rfl, rfl⟩ pe_int) ve_int) (pv 1) ⟨_, rfl, rfl⟩ pe_int)
  (ws_cons (ws_set (i := 2) ve_int rfl rfl sc__law_next.nd)
  (ws_cons (ws_if (vt_cmp op_gt os_cmp (ve_len bl.len_ (va_cons (ve_var (pv 0) (.inl rfl)) va_nil)) ve_int (nomark _)) (ws_one (ws_set (i := 2) (ve_ix (ve_var (pv 0) (.inl rfl)) (ve_op op_mod os_mod (ve_cell (pv 1) ⟨_, rfl, rfl⟩ pe_int) (ve_len bl.len_ (va_cons (ve_var (pv 0) (.inl rfl)) va_nil)))) rfl rfl sc__law_next.nd)) ws_nil)
  (ws_cons (ws_set (i := 3) (ve_op op_mod os_mod (ve_op op_mulIW os_mul (ve_op op_addIS os_add (ve_op op_addIS os_add (ve_op op_mod os_mod (ve_var (pv 2) (.inl rfl)) ve_int) (ve_op op_mulIW os_mul (ve_op op_mulIW os_mul (ve_cell (pv 1) ⟨_, rfl, rfl⟩ pe_int) (ve_cell (pv 1) ⟨_, rfl, rfl⟩ pe_int)) ve_int)) ve_int) ve_int) ve_int) rfl rfl sc__law_next.nd)
  (ws_one (ws_ret (ve_op op_mod os_mod (ve_op op_mulIW os_mul (ve_var (pv 3) (.inl rfl)) (ve_var (pv 3) (.inl rfl))) ve_int))))))))⟩
theorem ok__law_signs {f : Addr} {fd : FuncData} (Fu : FunD K "_law_signs" "_law_signs" (defArgs s__law_signs) (defBody s__law_signs) (defScope s__law_signs) [] [] f fd) (hm : mg "_law_signs" = some (.ref f)) (bl : BF mg) (xf : XF P w K mg base) (A__law_next : Av P w K mg base "_law_next" ["_law_script", "_law_at"] 1 (spM K (some 1) 2 0 (f__law_next cs)))    : Av P w K mg base "_law_signs" ["_law_script", "_law_at", "_law_many"] 2 (spM K (some 1) 3 0 (f__law_signs cs)) :=
  ⟨f, fd, hm, Fu.kp, (Fu.bindsN fun _ _ _ _ _ _ us hl => match us, hl with | [_, _, _], _ => rfl), def_okC (N := N__law_signs) (T := T__law_signs) (ms := m__law_signs cs) 1 (by decide) Fu sc__law_signs (by first | (exact fun _ _ => rfl) | decide) (fun cdv A outer s H E a hr => by
      exact (ws_cons (ws_set (i := 3) ve_str rfl rfl sc__law_signs.nd)
  (ws_cons (ws_set (i := 3) (ve_op op_addIS os_add (ve_var (pv 3) (.inl rfl)) ve_str) rfl rfl sc__law_signs.nd)
  (ws_cons (ws_set (i := 4) (ve_callA A__law_next (fun h => by cases h) (hr.mono (by first | decide | omega)) (takes_of rfl rfl rfl rfl) (vc_cons (ve_var (pv 0) (.inl rfl)) (vc_cell (pv 1) ⟨_, rfl, rfl⟩ (vc_all va_nil))) (LenM.cons (LenM.cons LenM.nil))) rfl rfl sc__law_signs.nd)
  (ws_cons (ws_set (i := 5) ve_str rfl rfl sc__law_signs.nd)
  (ws_cons (ws_for (passes_of rfl) (vi_range1 bl.range_ (va_cons (ve_var (pv 2) (.inl rfl)) va_nil)) (vg_name (i := 6) ⟨rfl, rfl⟩ sc__law_signs.nd) (ws_one (ws_set (i := 5) (ve_op op_addIS os_add (ve_var (pv 5) (.inl rfl)) (ve_ix (ve_var (pv 3) (.inl rfl)) (ve_op op_mod os_mod (ve_op op_addIS os_add (ve_var (pv 4) (.inl rfl)) (ve_op op_mulIW os_mul (ve_var (pv 6) (.inl rfl)) (ve_op op_addIS os_add ve_int (ve_op op_mod os_mod (ve_op op_fdivW os_div (ve_var (pv 4) (.inl rfl)) ve_int) ve_int)))) ve_int))) rfl rfl sc__law_signs.nd)))
  (ws_cons (ws_set (i := 7) ve_str rfl rfl sc__law_signs.nd)
  (ws_cons (ws_for (passes_of rfl) (vi_any (ve_var (pv 5) (.inl rfl))) (vg_name (i := 8) ⟨rfl, rfl⟩ sc__law_signs.nd) (ws_one (ws_if (vt_cmp op_notIn_sign os_notInS (ve_var (pv 8) (.inl rfl)) (ve_var (pv 7) (.inl rfl)) rfl) (ws_one (ws_set (i := 7) (ve_op op_addIS os_add (ve_var (pv 7) (.inl rfl)) (ve_var (pv 8) (.inl rfl))) rfl rfl sc__law_signs.nd)) ws_nil)))
  (ws_one (ws_ret (ve_var (pv 7) (.inl rfl))))))))))))⟩
theorem ok__law_row {f : Addr} {fd : FuncData} (Fu : FunD K "_law_row" "_law_row" (defArgs s__law_row) (defBody s__law_row) (defScope s__law_row) [] [] f fd) (hm : mg "_law_row" = some (.ref f)) (bl : BF mg) (xf : XF P w K mg base) (A__law_next : Av P w K mg base "_law_next" ["_law_script", "_law_at"] 1 (spM K (some 1) 2 0 (f__law_next cs)))    : Av P w K mg base "_law_row" ["_law_script", "_law_at", "_law_signs_here", "_law_many"] 2 (spM K (some 1) 4 0 (f__law_row cs)) :=
  ⟨f, fd, hm, Fu.kp, (Fu.bindsN fun _ _ _ _ _ _ us hl => match us, hl with | [_, _, _, _], _ => rfl), def_okC (N := N__law_row) (T := T__law_row) (ms := m__law_row cs) 1 (by decide) Fu sc__law_row (by first | (exact fun _ _ => rfl) | decide) (fun cdv A outer s H E a hr => by
      exact (ws_cons (ws_set (i := 4) ve_str rfl rfl sc__law_row.nd)
  (ws_cons (ws_for (passes_of rfl) (vi_range1 bl.range_ (va_cons (ve_var (pv 3) (.inl rfl)) va_nil)) (vg_name (i := 5) ⟨rfl, rfl⟩ sc__law_row.nd) (ws_one (ws_set (i := 4) (ve_op op_addIS os_add (ve_var (pv 4) (.inl rfl)) (ve_ix (ve_var (pv 2) (.inl rfl)) (ve_op op_mod os_mod (ve_bo (k := 0) (ve_callA A__law_next (fun h => by cases h) (hr.mono (by first | decide | omega)) (takes_of rfl rfl rfl rfl) (vc_cons (ve_var (pv 0) (.inl rfl)) (vc_cell (pv 1) ⟨_, rfl, rfl⟩ (vc_all va_nil))) (LenM.cons (LenM.cons LenM.nil)))) (ve_len bl.len_ (va_cons (ve_var (pv 2) (.inl rfl)) va_nil))))) rfl rfl sc__law_row.nd)))
  (ws_one (ws_ret (ve_var (pv 4) (.inl rfl)))))))⟩
theorem ok__law_same {f : Addr} {fd : FuncData} (Fu : FunD K "_law_same" "_law_same" (defArgs s__law_same) (defBody s__law_same) (defScope s__law_same) [] [] f fd) (hm : mg "_law_same" = some (.ref f)) (bl : BF mg) (xf : XF P w K mg base)     : ∀ k : Nat, Av P w K mg base "_law_same" ["_law_found", "_law_due"] (0 + k + 1) (spM K none 2 0 (pureF (f__law_same cs k)))
  | 0 => ⟨f, fd, hm, Fu.kp, (Fu.bindsN fun _ _ _ _ _ _ us hl => match us, hl with | [_, _], _ => rfl), ⟨fun vs H Q E h => h.1, fun A outer s H args us vs Q E hr e0 hb r h => by
      obtain ⟨_, _, _, _, _, _, _, _, _, _, h⟩ := h
      exact h.elim⟩⟩
  | k + 1 => ⟨f, fd, hm, Fu.kp, (Fu.bindsN fun _ _ _ _ _ _ us hl => match us, hl with | [_, _], _ => rfl), def_ok0 (N := N__law_same) (T := T__law_same) (ms := m__law_same cs (f__law_same cs k)) Fu sc__law_same (by first | (exact fun _ _ => rfl) | decide) (fun cdv A outer s H E hr => by
      have ih := ok__law_same Fu hm bl xf  k
      exact (ws_cons (ws_if (vt_val (ve_isi (T := "dict") bl.isinstance_ bl.dict_ PyProof.Rows.boot_dict rfl (ve_var (pv 1) (.inl rfl)))) wss_never ws_nil)
  (ws_cons (ws_if ((vw_or (vt_val (ve_isi (T := "list") bl.isinstance_ bl.list_ PyProof.Rows.boot_list rfl (ve_var (pv 1) (.inl rfl)))) (vw_one_or (vt_val (ve_isi (T := "tuple") bl.isinstance_ bl.tuple_ PyProof.Rows.boot_tuple rfl (ve_var (pv 1) (.inl rfl))))))).pt (ws_cons (ws_if ((vw_and (vt_val (ve_isi (T := "list") bl.isinstance_ bl.list_ PyProof.Rows.boot_list rfl (ve_var (pv 1) (.inl rfl)))) (vw_one_and (vt_not (vt_val (ve_isi (T := "list") bl.isinstance_ bl.list_ PyProof.Rows.boot_list rfl (ve_var (pv 0) (.inl rfl)))))))).pt (ws_one (ws_ret ve_bl)) ws_nil)
  (ws_cons (ws_if ((vw_or ((vw_and (vt_val (ve_isi (T := "tuple") bl.isinstance_ bl.tuple_ PyProof.Rows.boot_tuple rfl (ve_var (pv 1) (.inl rfl)))) (vw_one_and (vt_not (vt_val (ve_isi (T := "tuple") bl.isinstance_ bl.tuple_ PyProof.Rows.boot_tuple rfl (ve_var (pv 0) (.inl rfl)))))))).pt (vw_one_or (vt_cmp op_ne os_ne (ve_len bl.len_ (va_cons (ve_var (pv 0) (.inl rfl)) va_nil)) (ve_len bl.len_ (va_cons (ve_var (pv 1) (.inl rfl)) va_nil)) (nomark _))))).pt (ws_one (ws_ret ve_bl)) ws_nil)
  (ws_one (ws_ret (ve_all bl.all_ (va_cons (ve_bo (k := 1) (ve_lc (own := [("_law_one_here", 3), ("_law_other", 4)]) (vi_zip2 bl.zip_ (va_cons (ve_var (pv 0) (.inl rfl)) (va_cons (ve_var (pv 1) (.inl rfl)) va_nil))) (blkOk_by (own := [("_law_one_here", 3), ("_law_other", 4)]) (N := N__law_same) (sc := (defScope s__law_same)) (by decide +kernel)) (fun _ _ _ _ _ => (vg_tup rfl (vgs_cons (i := 3) ⟨rfl, rfl⟩ sc__law_same.nd (vgs_cons (i := 4) ⟨rfl, rfl⟩ sc__law_same.nd vgs_nil)))) (fun _ _ _ _ _ => vts_nil) (fun _ _ _ _ _ => (ve_callA ih (fun _ => ⟨_, rfl⟩) (hr.mono (by omega)) takes0 (vc_all (va_cons (ve_var (pv 3) (.inl rfl)) (va_cons (ve_var (pv 4) (.inl rfl)) va_nil))) (LenM.cons (LenM.cons LenM.nil)))) (by decide) (fun i hi => by first | rfl | (simp at hi; subst hi; rfl) | (simp at hi; rcases hi with hi | hi <;> subst hi <;> rfl)) sc__law_same.nd)) va_nil)))))) ws_nil)
  (ws_cons (ws_if (vt_val (ve_isi (T := "str") bl.isinstance_ bl.str_ PyProof.Rows.boot_str rfl (ve_var (pv 1) (.inl rfl)))) (ws_one (ws_ret (ve_and (ve_isi (T := "str") bl.isinstance_ bl.str_ PyProof.Rows.boot_str rfl (ve_var (pv 0) (.inl rfl))) (ve_one (ve_cmp op_eq os_eq (ve_var (pv 0) (.inl rfl)) (ve_var (pv 1) (.inl rfl)) (nomark _)))))) ws_nil)
  (ws_one (ws_ret (ve_and (ve_isi (T := "int") bl.isinstance_ bl.int_ PyProof.Rows.boot_int rfl (ve_var (pv 0) (.inl rfl))) (ve_and (ve_not (ve_isi (T := "bool") bl.isinstance_ bl.bool_ PyProof.Rows.boot_bool rfl (ve_var (pv 0) (.inl rfl)))) (ve_one (ve_cmp op_eq os_eq (ve_var (pv 0) (.inl rfl)) (ve_var (pv 1) (.inl rfl)) (nomark _)))))))))))⟩
theorem ok__law_columns {f : Addr} {fd : FuncData} (Fu : FunD K "_law_columns" "_law_columns" (defArgs s__law_columns) (defBody s__law_columns) (defScope s__law_columns) [] [] f fd) (hm : mg "_law_columns" = some (.ref f)) (bl : BF mg) (xf : XF P w K mg base) (A__law_next : Av P w K mg base "_law_next" ["_law_script", "_law_at"] 1 (spM K (some 1) 2 0 (f__law_next cs)))    : Av P w K mg base "_law_columns" ["_law_script", "_law_at", "_law_signs_here", "_law_high", "_law_wide"] 2 (spM K (some 1) 5 0 (f__law_columns cs)) :=
  ⟨f, fd, hm, Fu.kp, (Fu.bindsN fun _ _ _ _ _ _ us hl => match us, hl with | [_, _, _, _, _], _ => rfl), def_okC (N := N__law_columns) (T := T__law_columns) (ms := m__law_columns cs) 1 (by decide) Fu sc__law_columns (by first | (exact fun _ _ => rfl) | decide) (fun cdv A outer s H E a hr => by
      exact (ws_cons (ws_setLc (i := 5) (own := [("_law_k", 8)]) (vi_range1 bl.range_ (va_cons (ve_var (pv 3) (.inl rfl)) va_nil)) (blkOk_by (own := [("_law_k", 8)]) (N := N__law_columns) (sc := (defScope s__law_columns)) (by decide +kernel)) (fun _ _ _ _ _ => (vg_name (i := 8) ⟨rfl, rfl⟩ sc__law_columns.nd)) (fun _ _ _ _ _ => vts_nil) (fun _ _ _ _ _ => ve_str) (by decide) (fun i hi => by first | rfl | (simp at hi; subst hi; rfl) | (simp at hi; rcases hi with hi | hi <;> subst hi <;> rfl)) rfl rfl sc__law_columns.nd rfl rfl (sw_true rfl rfl rfl (by decide +kernel)))
  (ws_cons (ws_for (passes_of rfl) (vi_range1 bl.range_ (va_cons (ve_var (pv 4) (.inl rfl)) va_nil)) (vg_name (i := 6) ⟨rfl, rfl⟩ sc__law_columns.nd) (ws_cons (ws_set (i := 7) (ve_op op_mod os_mod (ve_bo (k := 0) (ve_callA A__law_next (fun h => by cases h) (hr.mono (by first | decide | omega)) (takes_of rfl rfl rfl rfl) (vc_cons (ve_var (pv 0) (.inl rfl)) (vc_cell (pv 1) ⟨_, rfl, rfl⟩ (vc_all va_nil))) (LenM.cons (LenM.cons LenM.nil)))) (ve_var (pv 3) (.inl rfl))) rfl rfl sc__law_columns.nd)
  (ws_one (ws_for (passes_of rfl) (vi_range1 bl.range_ (va_cons (ve_var (pv 3) (.inl rfl)) va_nil)) (vg_name (i := 8) ⟨rfl, rfl⟩ sc__law_columns.nd) (ws_cons (ws_set (i := 9) (ve_callA A__law_next (fun h => by cases h) (hr.mono (by first | decide | omega)) (takes_of rfl rfl rfl rfl) (vc_cons (ve_var (pv 0) (.inl rfl)) (vc_cell (pv 1) ⟨_, rfl, rfl⟩ (vc_all va_nil))) (LenM.cons (LenM.cons LenM.nil))) rfl rfl sc__law_columns.nd)
  (ws_one (ws_if ((vw_or (vt_cmp op_eq os_eq (ve_var (pv 8) (.inl rfl)) (ve_var (pv 7) (.inl rfl)) (nomark _)) (vw_one_or (vt_cmp op_lt os_cmp (ve_op op_mod os_mod (ve_var (pv 9) (.inl rfl)) ve_int) ve_int (nomark _))))).pt (ws_one (ws_seti (ve_op op_addIS os_add (ve_ix (ve_var (pv 5) (.inr rfl)) (ve_var (pv 8) (.inl rfl))) (ve_ix (ve_var (pv 2) (.inl rfl)) (ve_op op_mod os_mod (ve_op op_fdivW os_div (ve_var (pv 9) (.inl rfl)) ve_int) (ve_len bl.len_ (va_cons (ve_var (pv 2) (.inl rfl)) va_nil))))) (pl_nil (k := 0) (pv 5) rfl) plt_nil rfl (ve_var (pv 8) (.inl rfl)))) (ws_one (ws_seti (ve_op op_addIS os_add (ve_ix (ve_var (pv 5) (.inr rfl)) (ve_var (pv 8) (.inl rfl))) ve_str) (pl_nil (k := 0) (pv 5) rfl) plt_nil rfl (ve_var (pv 8) (.inl rfl)))))))))))
  (ws_one (ws_ret (ve_var (pv 5) (.inl rfl)))))))⟩
theorem ok__law_told {f : Addr} {fd : FuncData} (Fu : FunD K "_law_told" "_law_told" (defArgs s__law_told) (defBody s__law_told) (defScope s__law_told) [] [] f fd) (hm : mg "_law_told" = some (.ref f)) (bl : BF mg) (xf : XF P w K mg base) (A_read_block : Av P w K mg base "read_block" ["text"] 5 (spM K none 1 0 (pureF (f_read_block cs)))) (A_read_laying : Av P w K mg base "read_laying" ["text"] 6 (spM K none 1 0 (pureF (f_read_laying cs))))    : Av P w K mg base "_law_told" ["_law_text", "_law_laying_here"] 7 (spM K none 2 0 (pureF (f__law_told cs))) :=
  ⟨f, fd, hm, Fu.kp, (Fu.bindsN fun _ _ _ _ _ _ us hl => match us, hl with | [_, _], _ => rfl), def_ok0 (N := N__law_told) (T := T__law_told) (ms := m__law_told cs) Fu sc__law_told (by first | (exact fun _ _ => rfl) | decide) (fun cdv A outer s H E hr => by
      exact (ws_cons (ws_try (mb := (b__law_told_1 cs)) (hs := [(0, some 3, (sSet 2 (mTup (mCons (mC (.str "no")) (mCons (mVar 3) (ret (some [])))))))]) rfl rfl rfl sc__law_told.nd (takes_of rfl rfl rfl rfl) xf.ef (fun _ _ _ _ => rfl) (fun W1 pn1 xe1 tk1 po1 => (ws_one (ws_if (vt_val (ve_var (pv 1) (.inl rfl))) (ws_one (ws_set (i := 2) (ve_tup (va_cons ve_str (va_cons (ve_callA A_read_laying (fun _ => ⟨_, rfl⟩) (hr.mono (by first | decide | omega)) tk1 (vc_all (va_cons (ve_var (pv 0) (.inl rfl)) va_nil)) (LenM.cons LenM.nil)) va_nil))) rfl rfl sc__law_told.nd)) (ws_one (ws_set (i := 2) (ve_tup (va_cons ve_str (va_cons (ve_callA A_read_block (fun _ => ⟨_, rfl⟩) (hr.mono (by first | decide | omega)) tk1 (vc_all (va_cons (ve_var (pv 0) (.inl rfl)) va_nil)) (LenM.cons LenM.nil)) va_nil))) rfl rfl sc__law_told.nd))))) (.named (i := 3) rfl rfl ⟨rfl, by decide, .inl xf.n_WeaveError⟩ (fun _ _ => (ws_one (ws_set (i := 2) (ve_tup (va_cons ve_str (va_cons (ve_var (pv 3) (.inl rfl)) va_nil))) rfl rfl sc__law_told.nd))) .nil))
  (ws_cons (ws_if (vt_cmp op_eq os_eq (ve_ix (ve_var (pv 2) (.inl rfl)) ve_int) ve_str (nomark _)) (ws_cons (ws_if ((vw_or (vt_val (ve_isET xf.ef bl.isinstance_ (.cons xf.n_NoNote (by rfl) (by decide) (by rfl) (.cons xf.n_NoPrices (by rfl) (by decide) (by rfl) (.cons xf.n_NoSign (by rfl) (by decide) (by rfl) .nil))) (by decide) (ve_ix (ve_var (pv 2) (.inl rfl)) ve_int))) (vw_one_or (vt_not (vt_val (ve_isV xf.ef bl.isinstance_ bl.ValueError_ (ve_ix (ve_var (pv 2) (.inl rfl)) ve_int))))))).pt (ws_one (ws_ret (ve_tup (va_cons ve_str (va_cons ve_int va_nil))))) ws_nil)
  (ws_cons (ws_if ((vw_and (vt_val (ve_isE xf.ef bl.isinstance_ xf.n_NoText (by decide) (ve_ix (ve_var (pv 2) (.inl rfl)) ve_int))) (vw_one_and (vt_not (vt_val (ve_isE xf.ef bl.isinstance_ xf.n_NoBlock (by decide) (ve_ix (ve_var (pv 2) (.inl rfl)) ve_int))))))).pt (ws_one (ws_ret (ve_tup (va_cons ve_str (va_cons (ve_fldE xf.ef (ve_ix (ve_var (pv 2) (.inl rfl)) ve_int)) va_nil))))) ws_nil)
  (ws_one (ws_if ((vw_and (vt_val (ve_isE xf.ef bl.isinstance_ xf.n_NoBlock (by decide) (ve_ix (ve_var (pv 2) (.inl rfl)) ve_int))) (vw_one_and (vt_not (vt_val (ve_isE xf.ef bl.isinstance_ xf.n_NoText (by decide) (ve_ix (ve_var (pv 2) (.inl rfl)) ve_int))))))).pt (ws_one (ws_ret (ve_tup (va_cons ve_str (va_cons ve_int va_nil))))) ws_nil)))) ws_nil)
  (ws_one (ws_ret (ve_var (pv 2) (.inl rfl)))))))⟩
theorem ok__law_spoilt {f : Addr} {fd : FuncData} (Fu : FunD K "_law_spoilt" "_law_spoilt" (defArgs s__law_spoilt) (defBody s__law_spoilt) (defScope s__law_spoilt) [] [] f fd) (hm : mg "_law_spoilt" = some (.ref f)) (bl : BF mg) (xf : XF P w K mg base) (A__law_next : Av P w K mg base "_law_next" ["_law_script", "_law_at"] 1 (spM K (some 1) 2 0 (f__law_next cs)))    : Av P w K mg base "_law_spoilt" ["_law_script", "_law_at", "_law_rows"] 2 (spM K (some 1) 3 0 (f__law_spoilt cs)) :=
  ⟨f, fd, hm, Fu.kp, (Fu.bindsN fun _ _ _ _ _ _ us hl => match us, hl with | [_, _, _], _ => rfl), def_okC (N := N__law_spoilt) (T := T__law_spoilt) (ms := m__law_spoilt cs) 1 (by decide) Fu sc__law_spoilt (by first | (exact fun _ _ => rfl) | decide) (fun cdv A outer s H E a hr => by
      exact (ws_cons (ws_set (i := 3) (ve_callA A__law_next (fun h => by cases h) (hr.mono (by first | decide | omega)) (takes_of rfl rfl rfl rfl) (vc_cons (ve_var (pv 0) (.inl rfl)) (vc_cell (pv 1) ⟨_, rfl, rfl⟩ (vc_all va_nil))) (LenM.cons (LenM.cons LenM.nil))) rfl rfl sc__law_spoilt.nd)
  (ws_cons (ws_set (i := 4) (ve_op op_mod os_mod (ve_op op_fdivW os_div (ve_var (pv 3) (.inl rfl)) ve_int) (ve_len bl.len_ (va_cons (ve_var (pv 2) (.inl rfl)) va_nil))) rfl rfl sc__law_spoilt.nd)
  (ws_cons (ws_set (i := 5) (ve_list bl.list_ (va_cons (ve_var (pv 2) (.inl rfl)) va_nil)) rfl rfl sc__law_spoilt.nd)
  (ws_cons (ws_if ((vw_and (vt_cmp op_lt os_cmp (ve_op op_mod os_mod (ve_var (pv 3) (.inl rfl)) ve_int) ve_int (nomark _)) (vw_one_and (vt_cmp op_gt os_cmp (ve_len bl.len_ (va_cons (ve_ix (ve_var (pv 2) (.inl rfl)) ve_int) va_nil)) ve_int (nomark _))))).pt (ws_cons (ws_set (i := 6) (ve_op op_mod os_mod (ve_op op_fdivW os_div (ve_var (pv 3) (.inl rfl)) ve_int) (ve_len bl.len_ (va_cons (ve_ix (ve_var (pv 2) (.inl rfl)) ve_int) va_nil))) rfl rfl sc__law_spoilt.nd)
  (ws_cons (ws_seti (ve_op op_addIS os_add (ve_op op_addIS os_add (ve_slb (ve_ix (ve_var (pv 2) (.inl rfl)) (ve_var (pv 4) (.inl rfl))) vo_none (vo_some (ve_var (pv 6) (.inl rfl)))) ve_str) (ve_slb (ve_ix (ve_var (pv 2) (.inl rfl)) (ve_var (pv 4) (.inl rfl))) (vo_some (ve_op op_addIS os_add (ve_var (pv 6) (.inl rfl)) ve_int)) vo_none)) (pl_nil (k := 0) (pv 5) rfl) plt_nil rfl (ve_var (pv 4) (.inl rfl)))
  (ws_cons (ws_set (i := 7) (ve_var (pv 4) (.inl rfl)) rfl rfl sc__law_spoilt.nd)
  (ws_cons (ws_set (i := 8) (ve_op op_mod os_mod (ve_op op_fdivW os_div (ve_var (pv 3) (.inl rfl)) ve_int) (ve_len bl.len_ (va_cons (ve_var (pv 2) (.inl rfl)) va_nil))) rfl rfl sc__law_spoilt.nd)
  (ws_cons (ws_if ((vw_and (vt_cmp op_eq os_eq (ve_op op_mod os_mod (ve_var (pv 3) (.inl rfl)) ve_int) ve_int (nomark _)) (vw_one_and (vt_cmp op_gt os_cmp (ve_len bl.len_ (va_cons (ve_var (pv 2) (.inl rfl)) va_nil)) ve_int (nomark _))))).pt (ws_cons (ws_seti (ve_op op_addIS os_add (ve_ix (ve_var (pv 5) (.inr rfl)) (ve_var (pv 8) (.inl rfl))) ve_str) (pl_nil (k := 0) (pv 5) rfl) plt_nil rfl (ve_var (pv 8) (.inl rfl)))
  (ws_one (ws_set (i := 7) (ve_min2 bl.min_ (va_cons (ve_var (pv 4) (.inl rfl)) (va_cons (ve_max2 bl.max_ (va_cons (ve_var (pv 8) (.inl rfl)) (va_cons ve_int va_nil))) va_nil))) rfl rfl sc__law_spoilt.nd))) ws_nil)
  (wss_freeze (i := 5) (ws_cons (ws_if (vt_cmp op_eq os_eq (ve_op op_mod os_mod (ve_var (pv 3) (.inl rfl)) ve_int) ve_int (nomark _)) (ws_one (ws_setLc0 (k := 0) (i := 5) (own := [("_law_row_here", 9)]) (vi_any (ve_var (pv 5) (.inl rfl))) (blkOk_by (own := [("_law_row_here", 9)]) (N := N__law_spoilt) (sc := (defScope s__law_spoilt)) (by decide +kernel)) (fun _ _ _ _ _ => (vg_name (i := 9) ⟨rfl, rfl⟩ sc__law_spoilt.nd)) (fun _ _ _ _ _ => vts_nil) (fun _ _ _ _ _ => (ve_op op_addIS os_add (ve_var (pv 9) (.inl rfl)) ve_str)) (by decide) (fun i hi => by first | rfl | (simp at hi; subst hi; rfl) | (simp at hi; rcases hi with hi | hi <;> subst hi <;> rfl)) rfl rfl sc__law_spoilt.nd rfl rfl (sw_true rfl rfl rfl (by decide +kernel)))) ws_nil)
  (ws_one (ws_ret (ve_tup (va_cons (ve_var (pv 5) (.inl rfl)) (va_cons (ve_tup (va_cons ve_str (va_cons (ve_var (pv 7) (.inl rfl)) va_nil))) va_nil)))))))))))) ws_nil)
  (ws_cons (ws_if ((vw_and (vt_cmp op_eq os_eq (ve_op op_mod os_mod (ve_var (pv 3) (.inl rfl)) ve_int) ve_int (nomark _)) (vw_one_and (vt_cmp op_gt os_cmp (ve_len bl.len_ (va_cons (ve_var (pv 2) (.inl rfl)) va_nil)) ve_int (nomark _))))).pt (ws_cons (ws_seti (ve_op op_addIS os_add (ve_ix (ve_var (pv 2) (.inl rfl)) (ve_var (pv 4) (.inl rfl))) (ve_ix (ve_lstb (va_cons ve_str (va_cons ve_str va_nil))) (ve_op op_mod os_mod (ve_op op_fdivW os_div (ve_var (pv 3) (.inl rfl)) ve_int) ve_int))) (pl_nil (k := 0) (pv 5) rfl) plt_nil rfl (ve_var (pv 4) (.inl rfl)))
  (ws_one (ws_ret (ve_tup (va_cons (ve_var (pv 5) (.inl rfl)) (va_cons (ve_tup (va_cons ve_str (va_cons (ve_max2 bl.max_ (va_cons (ve_var (pv 4) (.inl rfl)) (va_cons ve_int va_nil))) va_nil))) va_nil)))))) ws_nil)
  (ws_cons (ws_if ((vw_and (vt_cmp op_eq os_eq (ve_op op_mod os_mod (ve_var (pv 3) (.inl rfl)) ve_int) ve_int (nomark _)) (vw_and (vt_cmp op_gt os_cmp (ve_len bl.len_ (va_cons (ve_var (pv 2) (.inl rfl)) va_nil)) ve_int (nomark _)) (vw_one_and (vt_cmp op_gt os_cmp (ve_len bl.len_ (va_cons (ve_ix (ve_var (pv 2) (.inl rfl)) ve_int) va_nil)) ve_int (nomark _)))))).pt (ws_cons (ws_seti (ve_frz (k := 1) (ve_sl1 (ve_ix (ve_var (pv 2) (.inl rfl)) (ve_var (pv 4) (.inl rfl))) (vo_some ve_int) vo_none)) (pl_nil (k := 0) (pv 5) rfl) plt_nil rfl (ve_var (pv 4) (.inl rfl)))
  (ws_one (ws_ret (ve_tup (va_cons (ve_var (pv 5) (.inl rfl)) (va_cons (ve_tup (va_cons ve_str (va_cons (ve_max2 bl.max_ (va_cons (ve_var (pv 4) (.inl rfl)) (va_cons ve_int va_nil))) va_nil))) va_nil)))))) ws_nil)
  (ws_cons (ws_set (i := 6) (ve_op op_mod os_mod (ve_op op_fdivW os_div (ve_var (pv 3) (.inl rfl)) ve_int) (ve_op op_addIS os_add (ve_len bl.len_ (va_cons (ve_ix (ve_var (pv 2) (.inl rfl)) ve_int) va_nil)) ve_int)) rfl rfl sc__law_spoilt.nd)
  (ws_one (ws_ret (ve_tup (va_cons (ve_frz (k := 1) (ve_lc (own := [("_law_row_here", 9)]) (vi_any (ve_var (pv 2) (.inl rfl))) (blkOk_by (own := [("_law_row_here", 9)]) (N := N__law_spoilt) (sc := (defScope s__law_spoilt)) (by decide +kernel)) (fun _ _ _ _ _ => (vg_name (i := 9) ⟨rfl, rfl⟩ sc__law_spoilt.nd)) (fun _ _ _ _ _ => vts_nil) (fun _ _ _ _ _ => (ve_op op_addIS os_add (ve_op op_addIS os_add (ve_slb (ve_var (pv 9) (.inl rfl)) vo_none (vo_some (ve_var (pv 6) (.inl rfl)))) ve_str) (ve_slb (ve_var (pv 9) (.inl rfl)) (vo_some (ve_var (pv 6) (.inl rfl))) vo_none))) (by decide) (fun i hi => by first | rfl | (simp at hi; subst hi; rfl) | (simp at hi; rcases hi with hi | hi <;> subst hi <;> rfl)) sc__law_spoilt.nd)) (va_cons (ve_tup (va_cons ve_str (va_cons ve_int va_nil))) va_nil)))))))))))))⟩
theorem ok__law_laying {f : Addr} {fd : FuncData} (Fu : FunD K "_law_laying" "_law_laying" (defArgs s__law_laying) (defBody s__law_laying) (defScope s__law_laying) [] [] f fd) (hm : mg "_law_laying" = some (.ref f)) (bl : BF mg) (xf : XF P w K mg base) (A__law_next : Av P w K mg base "_law_next" ["_law_script", "_law_at"] 1 (spM K (some 1) 2 0 (f__law_next cs))) (A__law_same : Av P w K mg base "_law_same" ["_law_found", "_law_due"] 5 (spM K none 2 0 (pureF (f__law_same cs 4)))) (A__law_spoilt : Av P w K mg base "_law_spoilt" ["_law_script", "_law_at", "_law_rows"] 2 (spM K (some 1) 3 0 (f__law_spoilt cs))) (A__law_told : Av P w K mg base "_law_told" ["_law_text", "_law_laying_here"] 7 (spM K none 2 0 (pureF (f__law_told cs)))) (A_written_laying : Av P w K mg base "written_laying" ["first", "second", "moves"] 1 (spM K none 3 0 (pureF (f_written_laying cs))))    : Av P w K mg base "_law_laying" ["_law_script", "_law_at", "_law_signs_here"] 8 (spM K (some 1) 3 0 (f__law_laying cs)) :=
  ⟨f, fd, hm, Fu.kp, (Fu.bindsN fun _ _ _ _ _ _ us hl => match us, hl with | [_, _, _], _ => rfl), def_okC (N := N__law_laying) (T := T__law_laying) (ms := m__law_laying cs) 1 (by decide) Fu sc__law_laying (by first | (exact fun _ _ => rfl) | decide) (fun cdv A outer s H E a hr => by
      exact (ws_cons (ws_set (i := 3) ve_str rfl rfl sc__law_laying.nd)
  (ws_cons (ws_set (i := 4) (ve_frz (k := 1) (ve_lst1 (va_cons ve_str (va_cons ve_str (va_cons ve_str (va_cons ve_str va_nil)))))) rfl rfl sc__law_laying.nd)
  (ws_cons (ws_for (passes_of rfl) (vi_range1 bl.range_ (va_cons (ve_op op_mod os_mod (ve_bo (k := 0) (ve_callA A__law_next (fun h => by cases h) (hr.mono (by first | decide | omega)) (takes_of rfl rfl rfl rfl) (vc_cons (ve_var (pv 0) (.inl rfl)) (vc_cell (pv 1) ⟨_, rfl, rfl⟩ (vc_all va_nil))) (LenM.cons (LenM.cons LenM.nil)))) ve_int) va_nil)) (vg_name (i := 5) ⟨rfl, rfl⟩ sc__law_laying.nd) (ws_cons (ws_set (i := 6) (ve_callA A__law_next (fun h => by cases h) (hr.mono (by first | decide | omega)) (takes_of rfl rfl rfl rfl) (vc_cons (ve_var (pv 0) (.inl rfl)) (vc_cell (pv 1) ⟨_, rfl, rfl⟩ (vc_all va_nil))) (LenM.cons (LenM.cons LenM.nil))) rfl rfl sc__law_laying.nd)
  (ws_cons (ws_set (i := 3) (ve_op op_addIS os_add (ve_var (pv 3) (.inl rfl)) (ve_ix ve_str (ve_op op_mod os_mod (ve_var (pv 6) (.inl rfl)) ve_int))) rfl rfl sc__law_laying.nd)
  (ws_cons (ws_set (i := 7) (ve_ix (ve_var (pv 2) (.inl rfl)) (ve_op op_mod os_mod (ve_op op_fdivW os_div (ve_var (pv 6) (.inl rfl)) ve_int) (ve_len bl.len_ (va_cons (ve_var (pv 2) (.inl rfl)) va_nil)))) rfl rfl sc__law_laying.nd)
  (ws_cons (ws_set (i := 8) (ve_ix (ve_var (pv 2) (.inl rfl)) (ve_op op_mod os_mod (ve_op op_fdivW os_div (ve_var (pv 6) (.inl rfl)) ve_int) (ve_len bl.len_ (va_cons (ve_var (pv 2) (.inl rfl)) va_nil)))) rfl rfl sc__law_laying.nd)
  (ws_cons (ws_if (vt_cmp op_eq os_eq (ve_op op_mod os_mod (ve_var (pv 6) (.inl rfl)) ve_int) ve_int (nomark _)) (ws_one (ws_set (i := 8) ve_str rfl rfl sc__law_laying.nd)) ws_nil)
  (ws_cons (ws_if (vt_cmp op_eq os_eq (ve_op op_mod os_mod (ve_var (pv 6) (.inl rfl)) ve_int) ve_int (nomark _)) (ws_one (ws_set (i := 7) ve_str rfl rfl sc__law_laying.nd)) ws_nil)
  (ws_one (ws_set (i := 4) (ve_frz (k := 1) (ve_lst1 (va_cons (ve_op op_addIS os_add (ve_ix (ve_var (pv 4) (.inl rfl)) ve_int) (ve_var (pv 7) (.inl rfl))) (va_cons (ve_op op_addIS os_add (ve_ix (ve_var (pv 4) (.inl rfl)) ve_int) (ve_var (pv 8) (.inl rfl))) (va_cons (ve_op op_addIS os_add (ve_ix (ve_var (pv 4) (.inl rfl)) ve_int) (ve_orT (ve_var (pv 7) (.inl rfl)) (ve_one ve_str))) (va_cons (ve_op op_addIS os_add (ve_ix (ve_var (pv 4) (.inl rfl)) ve_int) (ve_orT (ve_var (pv 8) (.inl rfl)) (ve_one ve_str))) va_nil)))))) rfl rfl sc__law_laying.nd)))))))))
  (ws_cons (ws_set (i := 9) (ve_op op_addIS os_add (ve_op op_addIS os_add (ve_ix (ve_var (pv 4) (.inl rfl)) ve_int) ve_str) (ve_ix (ve_var (pv 4) (.inl rfl)) ve_int)) rfl rfl sc__law_laying.nd)
  (ws_cons (ws_set (i := 10) (ve_callA A_written_laying (fun _ => ⟨_, rfl⟩) (hr.mono (by first | decide | omega)) (takes_of rfl rfl rfl rfl) (vc_all (va_cons (ve_ix (ve_var (pv 4) (.inl rfl)) ve_int) (va_cons (ve_ix (ve_var (pv 4) (.inl rfl)) ve_int) (va_cons (ve_var (pv 3) (.inl rfl)) va_nil)))) (LenM.cons (LenM.cons (LenM.cons LenM.nil)))) rfl rfl sc__law_laying.nd)
  (ws_cons (ws_if ((vw_or (vt_not (vt_val (ve_isi (T := "str") bl.isinstance_ bl.str_ PyProof.Rows.boot_str rfl (ve_var (pv 10) (.inl rfl))))) (vw_one_or (vt_cmp op_ne os_ne (ve_var (pv 10) (.inl rfl)) (ve_var (pv 9) (.inl rfl)) (nomark _))))).pt (ws_one (ws_ret ve_bl)) ws_nil)
  (ws_cons (ws_if (vt_not (vt_val (ve_bo (k := 0) (ve_callA A__law_same (fun _ => ⟨_, rfl⟩) (hr.mono (by first | decide | omega)) (takes_of rfl rfl rfl rfl) (vc_all (va_cons (ve_callA A__law_told (fun _ => ⟨_, rfl⟩) (hr.mono (by first | decide | omega)) (takes_of rfl rfl rfl rfl) (vc_all (va_cons (ve_var (pv 9) (.inl rfl)) (va_cons ve_bl va_nil))) (LenM.cons (LenM.cons LenM.nil))) (va_cons (ve_tup (va_cons ve_str (va_cons (ve_tup (va_cons (ve_ix (ve_var (pv 4) (.inl rfl)) ve_int) (va_cons (ve_ix (ve_var (pv 4) (.inl rfl)) ve_int) (va_cons (ve_var (pv 3) (.inl rfl)) va_nil)))) va_nil))) va_nil))) (LenM.cons (LenM.cons LenM.nil)))))) (ws_one (ws_ret ve_bl)) ws_nil)
  (ws_cons (ws_asg (ve_callA A__law_spoilt (fun h => by cases h) (hr.mono (by first | decide | omega)) (takes_of rfl rfl rfl rfl) (vc_cons (ve_var (pv 0) (.inl rfl)) (vc_cell (pv 1) ⟨_, rfl, rfl⟩ (vc_all (va_cons (ve_frz (k := 1) (ve_sl1 (ve_var (pv 4) (.inl rfl)) (vo_some ve_int) vo_none)) va_nil)))) (LenM.cons (LenM.cons (LenM.cons LenM.nil)))) (vg_tup rfl (vgs_cons (i := 11) ⟨rfl, rfl⟩ sc__law_laying.nd (vgs_cons (i := 12) ⟨rfl, rfl⟩ sc__law_laying.nd vgs_nil))))
  (ws_cons (ws_if (vt_not (vt_val (ve_bo (k := 0) (ve_callA A__law_same (fun _ => ⟨_, rfl⟩) (hr.mono (by first | decide | omega)) (takes_of rfl rfl rfl rfl) (vc_all (va_cons (ve_callA A__law_told (fun _ => ⟨_, rfl⟩) (hr.mono (by first | decide | omega)) (takes_of rfl rfl rfl rfl) (vc_all (va_cons (ve_join ve_str (ve_var (pv 11) (.inl rfl))) (va_cons ve_bl va_nil))) (LenM.cons (LenM.cons LenM.nil))) (va_cons (ve_var (pv 12) (.inl rfl)) va_nil))) (LenM.cons (LenM.cons LenM.nil)))))) (ws_one (ws_ret ve_bl)) ws_nil)
  (ws_cons (ws_for (passes_of rfl) (vi_any (ve_frz (k := 1) (ve_lst1 (va_cons (ve_ix (ve_var (pv 4) (.inl rfl)) ve_int) (va_cons (ve_op op_addIS os_add (ve_op op_addIS os_add (ve_var (pv 9) (.inl rfl)) ve_str) (ve_ix (ve_var (pv 4) (.inl rfl)) ve_int)) va_nil))))) (vg_name (i := 13) ⟨rfl, rfl⟩ sc__law_laying.nd) (ws_one (ws_if (vt_not (vt_val (ve_bo (k := 0) (ve_callA A__law_same (fun _ => ⟨_, rfl⟩) (hr.mono (by first | decide | omega)) (takes_of rfl rfl rfl rfl) (vc_all (va_cons (ve_callA A__law_told (fun _ => ⟨_, rfl⟩) (hr.mono (by first | decide | omega)) (takes_of rfl rfl rfl rfl) (vc_all (va_cons (ve_var (pv 13) (.inl rfl)) (va_cons ve_bl va_nil))) (LenM.cons (LenM.cons LenM.nil))) (va_cons (ve_tup (va_cons ve_str (va_cons ve_int va_nil))) va_nil))) (LenM.cons (LenM.cons LenM.nil)))))) (ws_one (ws_ret ve_bl)) ws_nil)))
  (ws_one (ws_ret ve_bl)))))))))))))⟩
theorem ok__law_one {f : Addr} {fd : FuncData} (Fu : FunD K "_law_one" "_law_one" (defArgs s__law_one) (defBody s__law_one) (defScope s__law_one) [] [] f fd) (hm : mg "_law_one" = some (.ref f)) (bl : BF mg) (xf : XF P w K mg base) (A_Block_init : AvC P w K mg base "Block" (cs 0) ["self", "rows"] 3 (spI K (cs 0) 1 1 (f_Block_init cs))) (A__law_columns : Av P w K mg base "_law_columns" ["_law_script", "_law_at", "_law_signs_here", "_law_high", "_law_wide"] 2 (spM K (some 1) 5 0 (f__law_columns cs))) (A__law_laying : Av P w K mg base "_law_laying" ["_law_script", "_law_at", "_law_signs_here"] 8 (spM K (some 1) 3 0 (f__law_laying cs))) (A__law_next : Av P w K mg base "_law_next" ["_law_script", "_law_at"] 1 (spM K (some 1) 2 0 (f__law_next cs))) (A__law_same : Av P w K mg base "_law_same" ["_law_found", "_law_due"] 5 (spM K none 2 0 (pureF (f__law_same cs 4)))) (A__law_signs : Av P w K mg base "_law_signs" ["_law_script", "_law_at", "_law_many"] 2 (spM K (some 1) 3 0 (f__law_signs cs))) (A__law_spoilt : Av P w K mg base "_law_spoilt" ["_law_script", "_law_at", "_law_rows"] 2 (spM K (some 1) 3 0 (f__law_spoilt cs))) (A__law_told : Av P w K mg base "_law_told" ["_law_text", "_law_laying_here"] 7 (spM K none 2 0 (pureF (f__law_told cs)))) (A_written_block : Av P w K mg base "written_block" ["block"] 1 (spM K none 1 0 (pureF (f_written_block cs))))  (c_Block : CF_Block K (cs 0)) (g_Block : mg "Block" = some (.ref (cs 0))) : Av P w K mg base "_law_one" ["_law_script", "_law_at"] 9 (spM K (some 1) 2 0 (f__law_one cs)) :=
  ⟨f, fd, hm, Fu.kp, (Fu.bindsN fun _ _ _ _ _ _ us hl => match us, hl with | [_, _], _ => rfl), def_okC (N := N__law_one) (T := T__law_one) (ms := m__law_one cs) 1 (by decide) Fu sc__law_one (by first | (exact fun _ _ => rfl) | decide) (fun cdv A outer s H E a hr => by
      exact (ws_cons (ws_set (i := 2) (ve_callA A__law_signs (fun h => by cases h) (hr.mono (by first | decide | omega)) (takes_of rfl rfl rfl rfl) (vc_cons (ve_var (pv 0) (.inl rfl)) (vc_cell (pv 1) ⟨_, rfl, rfl⟩ (vc_all (va_cons (ve_op op_addIS os_add ve_int (ve_op op_mod os_mod (ve_bo (k := 0) (ve_callA A__law_next (fun h => by cases h) (hr.mono (by first | decide | omega)) (takes_of rfl rfl rfl rfl) (vc_cons (ve_var (pv 0) (.inl rfl)) (vc_cell (pv 1) ⟨_, rfl, rfl⟩ (vc_all va_nil))) (LenM.cons (LenM.cons LenM.nil)))) ve_int)) va_nil)))) (LenM.cons (LenM.cons (LenM.cons LenM.nil)))) rfl rfl sc__law_one.nd)
  (ws_cons (ws_set (i := 3) (ve_op op_addIS os_add ve_int (ve_op op_mod os_mod (ve_bo (k := 0) (ve_callA A__law_next (fun h => by cases h) (hr.mono (by first | decide | omega)) (takes_of rfl rfl rfl rfl) (vc_cons (ve_var (pv 0) (.inl rfl)) (vc_cell (pv 1) ⟨_, rfl, rfl⟩ (vc_all va_nil))) (LenM.cons (LenM.cons LenM.nil)))) ve_int)) rfl rfl sc__law_one.nd)
  (ws_cons (ws_set (i := 4) (ve_callA A__law_columns (fun h => by cases h) (hr.mono (by first | decide | omega)) (takes_of rfl rfl rfl rfl) (vc_cons (ve_var (pv 0) (.inl rfl)) (vc_cell (pv 1) ⟨_, rfl, rfl⟩ (vc_all (va_cons (ve_var (pv 2) (.inl rfl)) (va_cons (ve_var (pv 3) (.inl rfl)) (va_cons (ve_op op_mod os_mod (ve_bo (k := 0) (ve_callA A__law_next (fun h => by cases h) (hr.mono (by first | decide | omega)) (takes_of rfl rfl rfl rfl) (vc_cons (ve_var (pv 0) (.inl rfl)) (vc_cell (pv 1) ⟨_, rfl, rfl⟩ (vc_all va_nil))) (LenM.cons (LenM.cons LenM.nil)))) ve_int) va_nil)))))) (LenM.cons (LenM.cons (LenM.cons (LenM.cons (LenM.cons LenM.nil)))))) rfl rfl sc__law_one.nd)
  (ws_cons (ws_set (i := 5) (ve_join ve_str (ve_var (pv 4) (.inl rfl))) rfl rfl sc__law_one.nd)
  (ws_cons (ws_set (i := 6) (ve_callA A_written_block (fun _ => ⟨_, rfl⟩) (hr.mono (by first | decide | omega)) (takes_of rfl rfl rfl rfl) (vc_all (va_cons (ve_frz (k := 1) (ve_make A_Block_init (hr.mono (by first | decide | omega)) (takes_of rfl rfl rfl rfl) (va_cons (ve_var (pv 4) (.inl rfl)) va_nil) (LenM.cons LenM.nil))) va_nil)) (LenM.cons LenM.nil)) rfl rfl sc__law_one.nd)
  (ws_cons (ws_if ((vw_or (vt_not (vt_val (ve_isi (T := "str") bl.isinstance_ bl.str_ PyProof.Rows.boot_str rfl (ve_var (pv 6) (.inl rfl))))) (vw_one_or (vt_cmp op_ne os_ne (ve_var (pv 6) (.inl rfl)) (ve_var (pv 5) (.inl rfl)) (nomark _))))).pt (ws_one (ws_ret ve_bl)) ws_nil)
  (ws_cons (ws_asg (ve_callA A__law_spoilt (fun h => by cases h) (hr.mono (by first | decide | omega)) (takes_of rfl rfl rfl rfl) (vc_cons (ve_var (pv 0) (.inl rfl)) (vc_cell (pv 1) ⟨_, rfl, rfl⟩ (vc_all (va_cons (ve_var (pv 4) (.inl rfl)) va_nil)))) (LenM.cons (LenM.cons (LenM.cons LenM.nil)))) (vg_tup rfl (vgs_cons (i := 7) ⟨rfl, rfl⟩ sc__law_one.nd (vgs_cons (i := 8) ⟨rfl, rfl⟩ sc__law_one.nd vgs_nil))))
  (ws_cons (ws_if (vt_not (vt_val (ve_bo (k := 0) (ve_callA A__law_same (fun _ => ⟨_, rfl⟩) (hr.mono (by first | decide | omega)) (takes_of rfl rfl rfl rfl) (vc_all (va_cons (ve_callA A__law_told (fun _ => ⟨_, rfl⟩) (hr.mono (by first | decide | omega)) (takes_of rfl rfl rfl rfl) (vc_all (va_cons (ve_join ve_str (ve_var (pv 7) (.inl rfl))) (va_cons ve_bl va_nil))) (LenM.cons (LenM.cons LenM.nil))) (va_cons (ve_var (pv 8) (.inl rfl)) va_nil))) (LenM.cons (LenM.cons LenM.nil)))))) (ws_one (ws_ret ve_bl)) ws_nil)
  (ws_cons (ws_set (i := 9) (ve_callA A__law_told (fun _ => ⟨_, rfl⟩) (hr.mono (by first | decide | omega)) (takes_of rfl rfl rfl rfl) (vc_all (va_cons (ve_var (pv 5) (.inl rfl)) (va_cons ve_bl va_nil))) (LenM.cons (LenM.cons LenM.nil))) rfl rfl sc__law_one.nd)
  (ws_cons (ws_if ((vw_or (vt_cmp op_ne os_ne (ve_ix (ve_var (pv 9) (.inl rfl)) ve_int) ve_str (nomark _)) (vw_or (vt_not (vt_val (ve_isC c_Block.ins bl.isinstance_ g_Block (ve_ix (ve_var (pv 9) (.inl rfl)) ve_int)))) (vw_one_or (vt_not (vt_val (ve_bo (k := 0) (ve_callA A__law_same (fun _ => ⟨_, rfl⟩) (hr.mono (by first | decide | omega)) (takes_of rfl rfl rfl rfl) (vc_all (va_cons (ve_fld c_Block.cls c_Block.n_rows (ve_ix (ve_var (pv 9) (.inl rfl)) ve_int)) (va_cons (ve_tuple bl.tuple_ (va_cons (ve_var (pv 4) (.inl rfl)) va_nil)) va_nil))) (LenM.cons (LenM.cons LenM.nil)))))))))).pt (ws_one (ws_ret ve_bl)) ws_nil)
  (ws_one (ws_ret (ve_callA A__law_laying (fun h => by cases h) (hr.mono (by first | decide | omega)) (takes_of rfl rfl rfl rfl) (vc_cons (ve_var (pv 0) (.inl rfl)) (vc_cell (pv 1) ⟨_, rfl, rfl⟩ (vc_all (va_cons (ve_var (pv 2) (.inl rfl)) va_nil)))) (LenM.cons (LenM.cons (LenM.cons LenM.nil)))))))))))))))))⟩
theorem fk_law {f : Addr} {fd : FuncData} (Fu : FunD K "law" "law" (defArgs s_law) (defBody s_law) (defScope s_law) [] [] f fd) (hm : mg "law" = some (.ref f)) (bl : BF mg) (xf : XF P w K mg base) (A__law_one : Av P w K mg base "_law_one" ["_law_script", "_law_at"] 9 (spM K (some 1) 2 0 (f__law_one cs)))    : FnOk P w K mg base (L2.CX P w) 10 f fd ["_law_script"] (spM K none 1 0 (pureF (f_law cs))) :=
  def_ok0 (N := N_law) (T := T_law) (ms := m_law cs) Fu sc_law (by first | (exact fun _ _ => rfl) | decide) (fun cdv A outer s H E hr => by
      exact (ws_newCell (i := 1) rfl (fun _ => rfl) sc_law.nd (fun a => (ws_cons (ws_for (passes_of rfl) (vi_range1 bl.range_ (va_cons (ve_op op_addIS os_add ve_int (ve_min2 bl.min_ (va_cons ve_int (va_cons (ve_op op_fdivW os_div (ve_len bl.len_ (va_cons (ve_var (pv 0) (.inl rfl)) va_nil)) ve_int) va_nil)))) va_nil)) (vg_name (i := 2) ⟨rfl, rfl⟩ sc_law.nd) (ws_one (ws_if (vt_not (vt_val (ve_bo (k := 0) (ve_callA A__law_one (fun h => by cases h) (hr.mono (by first | decide | omega)) (takes_of rfl rfl rfl rfl) (vc_cons (ve_var (pv 0) (.inl rfl)) (vc_cell (pv 1) ⟨_, rfl, rfl⟩ (vc_all va_nil))) (LenM.cons (LenM.cons LenM.nil)))))) (ws_one (ws_ret ve_bl)) ws_nil)))
  (ws_one (ws_ret ve_bl))))))
end
end K67

namespace K67
open PySem L2 PyProof.Rows GW
variable {cs : Nat → Addr}
/-! ### the greatest part -/
theorem gcd_step {a b : Int} (ha : 0 ≤ a) (hb : 0 < b) : Int.gcd b (a % b) = Int.gcd a b := by
  obtain ⟨A, rfl⟩ := Int.eq_ofNat_of_zero_le ha
  obtain ⟨B, rfl⟩ := Int.eq_ofNat_of_zero_le (show 0 ≤ b by omega)
  show Nat.gcd B ((A : Int) % (B : Int)).natAbs = Nat.gcd A B
  rw [← Int.natCast_emod, Int.natAbs_natCast, Nat.gcd_comm A B, Nat.gcd_rec B A, Nat.gcd_comm]
/-! ### lowest terms -/
def lowD (a b : Int) : D := .tup [.int (a / Int.gcd a b), .int (b / Int.gcd a b)]
theorem absI (a : Int) : (if a < 0 then -a else a) = (a.natAbs : Int) := by split <;> omega
theorem low_parts {a b : Int} (hb : 0 < b) : ∃ p q : Int, a / (Int.gcd a b : Int) = p ∧ b / (Int.gcd a b : Int) = q ∧ 0 < q ∧ Int.gcd p q = 1 ∧ p * b = a * q ∧ p.natAbs ≤ a.natAbs ∧ q.natAbs ≤ b.natAbs := by
  have h0 : 0 < Int.gcd a b := Int.gcd_pos_of_ne_zero_right a (by omega)
  obtain ⟨p, hp⟩ : (Int.gcd a b : Int) ∣ a := Int.gcd_dvd_left a b
  obtain ⟨q, hq⟩ : (Int.gcd a b : Int) ∣ b := Int.gcd_dvd_right a b
  have hgg : Int.gcd (Int.gcd a b * p) (Int.gcd a b * q) = Int.gcd a b * Int.gcd p q := by
    rw [Int.gcd_mul_left]; simp
  rw [← hp, ← hq] at hgg
  generalize hg : Int.gcd a b = g at *
  subst hp hq
  have hg1 : Int.gcd p q = 1 := Nat.eq_of_mul_eq_mul_left h0 (by omega)
  have hq0 : 0 < q := by
    rcases Int.lt_trichotomy q 0 with h | h | h
    · have := Int.mul_neg_of_pos_of_neg (show (0 : Int) < g by omega) h; omega
    · subst h; simp at hb
    · exact h
  refine ⟨p, q, Int.mul_ediv_cancel_left p (by omega), Int.mul_ediv_cancel_left q (by omega), hq0, hg1, by rw [← Int.mul_assoc, Int.mul_comm p g], ?_, ?_⟩
  · rw [Int.natAbs_mul]; exact Nat.le_mul_of_pos_left _ (by omega)
  · rw [Int.natAbs_mul]; exact Nat.le_mul_of_pos_left _ (by omega)
end K67

namespace K67
open PySem L2 PyProof.Rows GW
variable {cs : Nat → Addr}
abbrev scD (ns : List Int) : D := .lst (ns.map D.int)
theorem at_script {ns : List Int} {i : Int} (h0 : 0 ≤ i) (h1 : i < ns.length) : ∃ c, atI (ns.map D.int) i = some (.int c) := by
  unfold atI ixN
  rw [if_pos h0, if_pos (by simpa using h1)]
  obtain ⟨k, rfl⟩ := Int.eq_ofNat_of_zero_le h0
  have hk : k < ns.length := by omega
  exact ⟨ns[k], by simp [hk]⟩
theorem next_eval {ns : List Int} {n : Int} (h0 : 0 ≤ n) (h1 : n ≤ 1000000) : ∃ v : Int, f__law_next cs n [scD ns, .non] = some (.ok (.int v), n + 1) ∧ 0 ≤ v ∧ v < 1999999973 := by
  obtain ⟨c, hc⟩ : ∃ c : Int, ∀ (a b : Option D), sIf (mTest (m2 (mCB (mCons (mVar 0) (ret (some []))) oLen) (mC (.int 0)) oGt)) (sSet 2 (m2 (mVar 0) (m2 mCell (mCB (mCons (mVar 0) (ret (some []))) oLen) oMod) oIx)) sNx (n + 1) [some (scD ns), a, some (.int 0), b] = some (.nx, n + 1, [some (scD ns), a, some (.int c), b]) := by
    by_cases hl : 0 < (ns.length : Int)
    · obtain ⟨c, hc⟩ := at_script (ns := ns) (Int.emod_nonneg (n + 1) (show (ns.length : Int) ≠ 0 by omega)) (Int.emod_lt_of_pos (n + 1) hl)
      have hl2 : 0 < ns.length := by omega
      exact ⟨c, fun a b => by simp [hl, hl2, hc]⟩
    · have hl2 : ¬ 0 < ns.length := by omega
      exact ⟨0, fun a b => by simp [hl2]⟩
  have r0 := Int.emod_nonneg c (show (2147483647 : Int) ≠ 0 by decide)
  have r1 := Int.emod_lt_of_pos c (show (0 : Int) < 2147483647 by decide)
  have hq : (n + 1) * (n + 1) ≤ 1000001 * 1000001 := Int.mul_le_mul (by omega) (by omega) (by omega) (by omega)
  have hq0 : 0 ≤ (n + 1) * (n + 1) := Int.mul_nonneg (by omega) (by omega)
  have m1 : mulOk (n + 1) (n + 1) = true := mulL ⟨by omega, by omega⟩
  have m2 : mulOk ((n + 1) * (n + 1)) 7919 = true := mulR (by decide)
  have m3 : mulOk (c % 2147483647 + (n + 1) * (n + 1) * 7919 + 11) 48271 = true := mulR (by decide)
  have s0 := Int.emod_nonneg ((c % 2147483647 + (n + 1) * (n + 1) * 7919 + 11) * 48271) (show (2147483647 : Int) ≠ 0 by decide)
  have s1 := Int.emod_lt_of_pos ((c % 2147483647 + (n + 1) * (n + 1) * 7919 + 11) * 48271) (show (0 : Int) < 2147483647 by decide)
  generalize hm : (c % 2147483647 + (n + 1) * (n + 1) * 7919 + 11) * 48271 % 2147483647 = m at s0 s1
  have m4 : mulOk m m = true := mulL ⟨by omega, by omega⟩
  refine ⟨m * m % 1999999973, ?_, Int.emod_nonneg _ (by decide), Int.emod_lt_of_pos _ (by decide)⟩
  unfold f__law_next fnC m__law_next
  simp [-sv_if, startD, hc, m1, m2, m3, hm, m4]
end K67

namespace K67
open PySem L2 PyProof.Rows GW
variable {cs : Nat → Addr}
/-! ### signs -/
def okS (c : Nat) : Bool := decide (32 ≤ c) && decide (c ≤ 126) && !(c == 34 || c == 37 || c == 45)
theorem is_sign_eval (c : Nat) : f_is_sign cs [.str (tx [c])] = some (.ok (.bl (okS c))) := by
  unfold f_is_sign m_is_sign
  apply fn0_of
  have h1 : scVs [.int 34, .int 37, .int 45] = some [V.int 34, V.int 37, V.int 45] := rfl
  by_cases ha : 32 ≤ c
  · have ha' : (32 : Int) ≤ c := by omega
    by_cases hb : c ≤ 126
    · have hb' : (c : Int) ≤ 126 := by omega
      have e : inV (V.int c) [V.int 34, V.int 37, V.int 45] = (c == 34 || c == 37 || c == 45) := by
        have q : ∀ k : Nat, ((k : Int) == (c : Int)) = (c == k) := fun k => by
          rw [Bool.eq_iff_iff]; simp; omega
        have q1 := q 34
        have q2 := q 37
        have q3 := q 45
        show (eqV (V.int 34) (V.int c) || (eqV (V.int 37) (V.int c) || (eqV (V.int 45) (V.int c) || false))) = _
        show (((34 : Int) == (c : Int)) || (((37 : Int) == (c : Int)) || (((45 : Int) == (c : Int)) || false))) = _
        rw [Bool.or_false, Bool.or_assoc]
        exact congr (congrArg _ q1) (congr (congrArg _ q2) q3)
      simp [startD, ha', hb', oInQ, scV, h1, e, okS, ha, hb]
    · have hb' : ¬ (c : Int) ≤ 126 := by omega
      simp [startD, ha', hb', okS, ha, hb]
  · have ha' : ¬ (32 : Int) ≤ c := by omega
    simp [startD, ha', okS, ha]
theorem nodup_inj {α : Type} : ∀ {l : List α}, l.Nodup → ∀ {i j : Nat} {a : α}, l[i]? = some a → l[j]? = some a → i = j
  | [], _, i, j, a, h, _ => by simp at h
  | b :: l, hn, i, j, a, h1, h2 => by
    rw [List.nodup_cons] at hn
    cases i with
    | zero =>
      cases j with
      | zero => rfl
      | succ j =>
        simp only [List.getElem?_cons_zero, Option.some.injEq] at h1
        subst h1
        exact absurd (List.mem_of_getElem? (by simpa using h2)) hn.1
    | succ i =>
      cases j with
      | zero =>
        simp only [List.getElem?_cons_zero, Option.some.injEq] at h2
        subst h2
        exact absurd (List.mem_of_getElem? (by simpa using h1)) hn.1
      | succ j => rw [nodup_inj hn.2 (i := i) (j := j) (by simpa using h1) (by simpa using h2)]
theorem take_idx {α : Type} {l : List α} {i : Nat} {a : α} (h : a ∈ l.take i) : ∃ j, j < i ∧ l[j]? = some a := by
  obtain ⟨j, hj⟩ := List.getElem?_of_mem h
  have hl := (List.getElem?_eq_some_iff.mp hj).1
  rw [List.length_take] at hl
  rw [List.getElem?_take_of_lt (by omega)] at hj
  exact ⟨j, by omega, hj⟩
/-- texts of signs, none twice -/
structure GoodS (S : List Nat) : Prop where
  nd : S.Nodup
  ok : ∀ c ∈ S, okS c = true
  len : S.length ≤ 12
  pos : 0 < S.length
theorem key_str (x : Str) : keyD (.str x) = some (.inr x) := rfl
theorem put_len (kds : List (Key × D)) (k : Key) (v : D) : (putKD kds k v).length ≤ kds.length + 1 := by
  unfold putKD; split <;> simp
theorem con_nil {i : Nat} {ds : DS} {kds : List (Key × D)} (h : ds[i]? = some (some (.dct kds))) : conAt i .nil ds = true := by
  unfold conAt; rw [h]; rfl
end K67

namespace K67
open PySem L2 PyProof.Rows GW
variable {cs : Nat → Addr}
/-! ### fractions as pairs -/
abbrev Fr := Int × Nat
def frD (p : Fr) : D := .tup [.int p.1, .int (p.2 : Int)]
def low (p : Fr) : Fr := (p.1 / (Nat.gcd p.1.natAbs p.2 : Nat), p.2 / Nat.gcd p.1.natAbs p.2)
structure Gd (p : Fr) : Prop where
  pos : 0 < p.2
  le : p.2 ≤ 1000
  sz : p.1.natAbs ≤ 10 ^ 40
theorem gcd_cast (p : Fr) : Int.gcd p.1 (p.2 : Int) = Nat.gcd p.1.natAbs p.2 := by simp [Int.gcd]
theorem low_is (p : Fr) : lowD p.1 (p.2 : Int) = frD (low p) := by
  unfold lowD frD low
  rw [gcd_cast]
  simp
theorem low_spec {p : Fr} (h : 0 < p.2) : 0 < (low p).2 ∧ Nat.gcd (low p).1.natAbs (low p).2 = 1 ∧ (low p).1 * (p.2 : Int) = p.1 * ((low p).2 : Int) ∧ (low p).1.natAbs ≤ p.1.natAbs ∧ (low p).2 ≤ p.2 := by
  obtain ⟨a, b, e1, e2, h1, h2, h3, h4, h5⟩ := low_parts (a := p.1) (b := (p.2 : Int)) (by omega)
  rw [gcd_cast] at e1 e2
  have f1 : (low p).1 = a := e1
  have f2 : ((low p).2 : Int) = b := by rw [← e2]; unfold low; simp
  have hb : b = ((low p).2 : Int) := f2.symm
  subst hb
  rw [f1]
  refine ⟨by omega, ?_, h3, h4, by simpa using h5⟩
  rw [← h2]; simp [Int.gcd]
theorem Gd.low {p : Fr} (h : Gd p) : Gd (low p) := by
  obtain ⟨h1, _, _, h4, h5⟩ := low_spec h.pos
  exact ⟨h1, Nat.le_trans h5 h.le, Nat.le_trans h4 h.sz⟩
theorem low_low {p : Fr} (h : 0 < p.2) : low (low p) = low p := by
  obtain ⟨h1, h2, _, _, _⟩ := low_spec h
  generalize low p = q at h1 h2
  unfold low
  rw [h2]
  simp
theorem Gd.sz1 {p : Fr} (h : Gd p) : Sz 200 p.1 := by
  have := h.sz
  unfold Sz; omega
theorem Gd.sz2 {p : Fr} (h : Gd p) : Sz 10 (p.2 : Int) := by
  have := h.le
  unfold Sz; omega
/-! ### the least whole number -/
def lcmL (us : List Nat) : Nat := us.foldl Nat.lcm 1
theorem lcmL_snoc {us : List Nat} {u : Nat} : lcmL (us ++ [u]) = Nat.lcm (lcmL us) u := by
  unfold lcmL; rw [List.foldl_append]; rfl
theorem take_snoc {α : Type} {l : List α} {i : Nat} {a : α} (h : l[i]? = some a) : l.take (i + 1) = l.take i ++ [a] := by
  rw [List.take_succ, h]; rfl
theorem lcm_fold : ∀ (us : List Nat) (w : Nat), (∀ u ∈ us, 0 < u ∧ u ≤ 1000) → 0 < w → 0 < us.foldl Nat.lcm w ∧ us.foldl Nat.lcm w ≤ w * 1000 ^ us.length
  | [], w, _, h => ⟨h, by simp⟩
  | u :: us, w, hu, h => by
    obtain ⟨h1, h2⟩ := hu u List.mem_cons_self
    obtain ⟨i1, i2⟩ := lcm_fold us (Nat.lcm w u) (fun v hv => hu v (List.mem_cons_of_mem _ hv)) (Nat.lcm_pos h h1)
    refine ⟨i1, Nat.le_trans i2 ?_⟩
    have : Nat.lcm w u ≤ w * u := Nat.le_of_dvd (Nat.mul_pos h h1) (Nat.lcm_dvd_mul _ _)
    rw [List.length_cons, Nat.pow_succ, Nat.mul_comm (1000 ^ us.length), ← Nat.mul_assoc]
    exact Nat.mul_le_mul_right _ (Nat.le_trans this (Nat.mul_le_mul_left _ h2))
theorem lcmL_bound (us : List Nat) (h : ∀ u ∈ us, 0 < u ∧ u ≤ 1000) : 0 < lcmL us ∧ lcmL us ≤ 1000 ^ us.length := by
  obtain ⟨h1, h2⟩ := lcm_fold us 1 h (by decide)
  exact ⟨h1, by rw [Nat.one_mul] at h2; exact h2⟩
def unD (us : List Nat) : List D := us.map fun (u : Nat) => D.int (u : Int)
theorem pow_sz {w n : Nat} (h : w ≤ 1000 ^ n) : Sz (10 * n + 1) (w : Int) := by
  unfold Sz
  have h1 : (1000 : Nat) ^ n ≤ (2 ^ 10) ^ n := Nat.pow_le_pow_left (by decide) n
  rw [← Nat.pow_mul] at h1
  have h2 : (2 : Nat) ^ (10 * n) < 2 ^ (10 * n + 1) := Nat.pow_lt_pow_right (by decide) (by omega)
  simp only [Int.natAbs_natCast]
  omega
/-! ### units -/
def un (p : Fr) (w : Nat) : Int := p.1 * ((w / p.2 : Nat) : Int)
end K67

namespace K67
open PySem L2 PyProof.Rows GW
variable {cs : Nat → Addr}
/-! ### prices are made -/
structure GT (n : Nat) (T : List (List Fr)) : Prop where
  len : T.length = n
  rows : ∀ l ∈ T, l.length = n ∧ ∀ p ∈ l, Gd p
def rowsD (b : Bool) (T : List (List Fr)) : D := seqD b (T.map fun l => seqD b (l.map frD))
def PT (T : List (List Fr)) : D := .tup (T.map fun l => .tup (l.map fun p => frD (low p)))
def und (T : List (List Fr)) : List Nat := T.flatMap fun l => l.map fun p => (low p).2
def unitW (T : List (List Fr)) (o m : Fr) : Nat := lcmL ((low o).2 :: (low m).2 :: und T)
def priceD (cs : Nat → Addr) (S : List Nat) (T : List (List Fr)) (o m : Fr) (w : Nat) (kds : List (Key × D)) : D :=
  .obj (cs 0) [fl "signs" (.str (tx S)), fl "pairs" (PT T), fl "opening" (frD (low o)), fl "more" (frD (low m)), fl "whole" (.int w), fl "costs" (.dct kds), fl "open_units" (.int (un (low o) w)), fl "more_units" (.int (un (low m) w))]
def CostOK (S : List Nat) (T : List (List Fr)) (w : Nat) (kds : List (Key × D)) : Prop := ∀ (i j c d : Nat) (l : List Fr) (p : Fr), S[i]? = some c → S[j]? = some d → T[i]? = some l → l[j]? = some p → valD kds (.inr (tx [c, d])) = some (.int (un (low p) w))
theorem flat_fr (p : Fr) : flat (frD p) = true := by simp [frD, flat, flats]
theorem flats_map {α : Type} {f : α → D} (h : ∀ a, flat (f a) = true) : ∀ l : List α, flats (l.map f) = true
  | [] => rfl
  | a :: l => by simp [flats, h a, flats_map h l]
theorem flat_PT (T : List (List Fr)) : flat (PT T) = true := by
  unfold PT
  simp only [flat]
  refine flats_map (f := fun l => D.tup (l.map fun p => frD (low p))) (fun l => ?_) T
  simp only [flat]
  exact flats_map (f := fun p => frD (low p)) (fun p => flat_fr _) l
theorem und_ok {n : Nat} {T : List (List Fr)} (h : GT n T) {o m : Fr} (ho : Gd o) (hm : Gd m) : ∀ u ∈ (low o).2 :: (low m).2 :: und T, 0 < u ∧ u ≤ 1000 := by
  intro u hu
  rcases List.mem_cons.mp hu with rfl | hu
  · exact ⟨ho.low.pos, ho.low.le⟩
  · rcases List.mem_cons.mp hu with rfl | hu
    · exact ⟨hm.low.pos, hm.low.le⟩
    · obtain ⟨l, hl, hu⟩ := List.mem_flatMap.mp hu
      obtain ⟨p, hp, rfl⟩ := List.mem_map.mp hu
      have := ((h.rows l hl).2 p hp).low
      exact ⟨this.pos, this.le⟩
theorem und_len {n : Nat} : ∀ {T : List (List Fr)}, (∀ l ∈ T, l.length = n) → (und T).length = T.length * n
  | [], _ => by simp [und]
  | l :: T, h => by
    have := und_len (T := T) fun l hl => h l (List.mem_cons_of_mem _ hl)
    unfold und at this ⊢
    rw [List.flatMap_cons, List.length_append, this, List.length_map, h l List.mem_cons_self, List.length_cons, Nat.succ_mul]
    omega
theorem unit_len {n : Nat} {T : List (List Fr)} (h : GT n T) (hn : n ≤ 12) {o m : Fr} : ((low o).2 :: (low m).2 :: und T).length ≤ 146 := by
  rw [List.length_cons, List.length_cons, und_len fun l hl => (h.rows l hl).1, h.len]
  have : n * n ≤ 12 * 12 := Nat.mul_le_mul hn hn
  omega
theorem unit_sz {n : Nat} {T : List (List Fr)} (h : GT n T) (hn : n ≤ 12) {o m : Fr} (ho : Gd o) (hm : Gd m) : 0 < unitW T o m ∧ Sz 2100 (unitW T o m : Int) := by
  obtain ⟨h1, h2⟩ := lcmL_bound _ (und_ok h ho hm)
  have h3 := unit_len h hn (o := o) (m := m)
  refine ⟨h1, (pow_sz (w := unitW T o m) (n := 146) (Nat.le_trans h2 (Nat.pow_le_pow_right (by decide) h3))).mono (by decide)⟩
def OKat (S : List Nat) (T : List (List Fr)) (w : Nat) (kds : List (Key × D)) (i j : Nat) : Prop := ∀ (c d : Nat) (l : List Fr) (p : Fr), S[i]? = some c → S[j]? = some d → T[i]? = some l → l[j]? = some p → valD kds (.inr (tx [c, d])) = some (.int (un (low p) w))
theorem put_ok {S : List Nat} {T : List (List Fr)} {w : Nat} {kds : List (Key × D)} {i j c d : Nat} {l : List Fr} {p : Fr} (hS : S.Nodup) (hc : S[i]? = some c) (hd : S[j]? = some d) (hl : T[i]? = some l) (hp : l[j]? = some p) {i' j' : Nat} (h : OKat S T w kds i' j' ∨ (i' = i ∧ j' = j)) : OKat S T w (putKD kds (.inr (tx [c, d])) (.int (un (low p) w))) i' j' := by
  intro c' d' l' p' hc' hd' hl' hp'
  rw [valD_put]
  by_cases hk : (.inr (tx [c', d']) : Key) = .inr (tx [c, d])
  · have := tx_inj.mp (Sum.inr.inj hk)
    simp only [List.cons.injEq, and_true] at this
    obtain ⟨r1, r2⟩ := this
    subst r1 r2
    have e1 := nodup_inj hS hc hc'
    have e2 := nodup_inj hS hd hd'
    subst e1 e2
    rw [hl] at hl'; cases hl'
    rw [hp] at hp'; cases hp'
    simp
  · rw [if_neg hk]
    rcases h with h | ⟨rfl, rfl⟩
    · exact h c' d' l' p' hc' hd' hl' hp'
    · rw [hc] at hc'; cases hc'
      rw [hd] at hd'; cases hd'
      exact absurd rfl hk
theorem put_flat {kds : List (Key × D)} {k : Key} {v : D} (h : (kds.all fun p => flat p.2) = true) (hv : flat v = true) : ((putKD kds k v).all fun p => flat p.2) = true := by
  rw [List.all_eq_true] at h ⊢
  intro p hp
  unfold putKD at hp
  split at hp
  · obtain ⟨q, hq, rfl⟩ := List.mem_map.mp hp
    split
    · exact hv
    · exact h q hq
  · rcases List.mem_append.mp hp with hp | hp
    · exact h p hp
    · simp only [List.mem_singleton] at hp
      subst hp; exact hv
theorem zip_get {α β : Type} {a : List α} {b : List β} {i : Nat} {x : α} {y : β} (h : (a.zip b)[i]? = some (x, y)) : a[i]? = some x ∧ b[i]? = some y := by
  rw [List.getElem?_zip_eq_some] at h; exact h
end K67

namespace K67
open PySem L2 PyProof.Rows GW
variable {cs : Nat → Addr}
/-! ### signs drawn -/
def A1 : List Nat := ((List.range 91).drop 32).filter okS
def A2 : List Nat := (List.range 127).drop 91
theorem al1 : Str.ofString " !#$&'()*+,./0123456789:;<=>?@ABCDEFGHIJKLMNOPQRSTUVWXYZ" = tx A1 := by decide +kernel
theorem al2 : Str.ofString "[\\]^_`abcdefghijklmnopqrstuvwxyz{|}~" = tx A2 := by decide +kernel
theorem al3 : (A1 ++ A2).length = 92 ∧ (∀ c ∈ A1 ++ A2, okS c = true) ∧ (A1 ++ A2).Nodup := by decide +kernel
theorem al4 : Str.ofString "" = tx [] := by decide +kernel
theorem flat1 (l : List Nat) : (l.map fun c => [c]).flatten = l := by
  induction l with
  | nil => rfl
  | cons a l ih => simp [ih]
theorem compL_rng {tg : Tg} {me : M} {vs : List Nat} {ds : DS} {n : Int} {N : Nat} (g : Nat → D) (h : ∀ i : Nat, i < N → ∃ ds1, tg.bind (.int (i : Int)) (wipeD ds vs) = some ds1 ∧ me n ds1 = some (.ok (g i), n)) : compL tg mYes me vs (rngD 0 N) n ds = some (.ok ((List.range N).map g), n) := by
  have e : rngD 0 N = (List.range N).map fun (i : Nat) => D.int (i : Int) := by
    apply List.ext_getElem?
    intro i
    by_cases hi : i < N
    · cases hr : (rngD 0 N)[i]? with
      | none => rw [List.getElem?_eq_none_iff, rng_len] at hr; omega
      | some d =>
        obtain ⟨rfl, _⟩ := rng_get hr
        rw [List.getElem?_map, List.getElem?_range hi, Int.zero_add]; rfl
    · rw [List.getElem?_eq_none (by rw [rng_len]; omega), List.getElem?_eq_none (by simp; omega)]
  rw [e]
  exact compL_map (fun (i : Nat) => D.int (i : Int)) g (List.range N) fun i hi => h i (List.mem_range.mp hi)
theorem al3b : (A1 ++ A2).length = 92 ∧ ∀ c ∈ A1 ++ A2, okS c = true := ⟨al3.1, al3.2.1⟩
theorem signs_eval {ns : List Int} {n : Int} {many : Nat} (h0 : 0 ≤ n) (h1 : n ≤ 100000) (hm0 : 0 < many) (hm : many ≤ 12) : ∃ S, (GoodS S ∧ S.length ≤ many) ∧ f__law_signs cs n [scD ns, .non, .int (many : Int)] = some (.ok (.str (tx S)), n + 1) := by
  obtain ⟨v, hv, v0, v1⟩ := next_eval (cs := cs) (ns := ns) h0 (show n ≤ 1000000 by omega)
  obtain ⟨k1, k2⟩ := al3b
  let st : Option D → Option D → Option D → Option D → Option D → Option D → DS := fun x3 x4 x5 x6 x7 x8 => [some (scD ns), none, some (.int (many : Int)), x3, x4, x5, x6, x7, x8]
  have d92 : divOk 92 = true := divL (by decide)
  -- the signs as drawn
  obtain ⟨n1, ds1, f1, rfl, L, x6, rfl, hL, hA⟩ := forR_inv (tg := .one 6) (body := b__law_signs_1 cs) (N := many) (n := n + 1) (ds := st (some (.str (tx (A1 ++ A2)))) (some (.int v)) (some (.str (tx []))) none none none)
    (fun i n' ds => n' = n + 1 ∧ ∃ L x6, ds = st (some (.str (tx (A1 ++ A2)))) (some (.int v)) (some (.str (tx L))) x6 none none ∧ L.length = i ∧ ∀ c ∈ L, c ∈ A1 ++ A2)
    (fun i n' ds hi ⟨hn, L, x6, hd, hL, hA⟩ => by
      subst hn hd
      have a0 : 0 ≤ v / 92 % 91 := Int.emod_nonneg _ (by decide)
      have a1 : v / 92 % 91 < 91 := Int.emod_lt_of_pos _ (by decide)
      have m1 : mulOk (i : Int) (1 + v / 92 % 91) = true := mulL ⟨by omega, by omega⟩
      obtain ⟨c, hc1, hc2, hc3⟩ := atI_ok (l := A1 ++ A2) (i := (v + (i : Int) * (1 + v / 92 % 91)) % 92) (Int.emod_nonneg _ (by decide)) (by rw [k1]; exact Int.emod_lt_of_pos _ (by decide))
      refine ⟨_, rfl, n + 1, st (some (.str (tx (A1 ++ A2)))) (some (.int v)) (some (.str (tx (L ++ [c])))) (some (.int (i : Int))) none none, ?_, rfl, _, _, rfl, by simp [hL], fun d hd => ?_⟩
      · unfold b__law_signs_1
        simp [st, d92, m1, ov_ixS (l := A1 ++ A2) (by rw [k1]; decide), hc1, ov_addS (a := L) (b := [c]) (by rw [hL]; simp; omega)]
      · rcases List.mem_append.mp hd with hd | hd
        · exact hA d hd
        · simp only [List.mem_singleton] at hd
          subst hd; exact hc3) ⟨rfl, [], none, rfl, rfl, fun c hc => by cases hc⟩
  obtain ⟨n2, ds2, f2, rfl, Mq, x8, rfl, hMn, hMA, hMl, hMp⟩ := forM_inv (tg := .one 8) (body := b__law_signs_2 cs) (f := fun c => D.str (tx [c])) (l := L) (n := n + 1) (ds := st (some (.str (tx (A1 ++ A2)))) (some (.int v)) (some (.str (tx L))) x6 (some (.str (tx []))) none)
    (fun i n' ds => n' = n + 1 ∧ ∃ Mq x8, ds = st (some (.str (tx (A1 ++ A2)))) (some (.int v)) (some (.str (tx L))) x6 (some (.str (tx Mq))) x8 ∧ Mq.Nodup ∧ (∀ c ∈ Mq, c ∈ A1 ++ A2) ∧ Mq.length ≤ i ∧ (0 < i → 0 < Mq.length))
    (fun i c n' ds hi ⟨hn, Mq, x8, hd, hMn, hMA, hMl, hMp⟩ => by
      subst hn hd
      have hlt := (List.getElem?_eq_some_iff.mp hi).1
      by_cases hc : c ∈ Mq
      · refine ⟨_, rfl, n + 1, st (some (.str (tx (A1 ++ A2)))) (some (.int v)) (some (.str (tx L))) x6 (some (.str (tx Mq))) (some (.str (tx [c]))), ?_, rfl, _, _, rfl, hMn, hMA, by omega, fun _ => List.length_pos_of_mem hc⟩
        unfold b__law_signs_2
        simp [st, hc]
      · refine ⟨_, rfl, n + 1, st (some (.str (tx (A1 ++ A2)))) (some (.int v)) (some (.str (tx L))) x6 (some (.str (tx (Mq ++ [c])))) (some (.str (tx [c]))), ?_, rfl, _, _, rfl, ?_, ?_, by simp; omega, fun _ => by simp⟩
        · unfold b__law_signs_2
          simp [st, hc, ov_addS (a := Mq) (b := [c]) (by simp; omega)]
        · rw [List.nodup_append]
          exact ⟨hMn, by simp, fun a ha b hb => by
            simp only [List.mem_singleton] at hb
            subst hb
            exact fun z => hc (z ▸ ha)⟩
        · intro d hd
          rcases List.mem_append.mp hd with hd | hd
          · exact hMA d hd
          · simp only [List.mem_singleton] at hd
            subst hd; exact hA _ (List.mem_of_getElem? hi)) ⟨rfl, [], none, rfl, by simp, (fun c hc => by cases hc), Nat.le_refl _, fun h => absurd h (Nat.lt_irrefl _)⟩
  refine ⟨Mq, ⟨⟨hMn, fun c hc => k2 c (hMA c hc), by omega, hMp (by omega)⟩, by omega⟩, ?_⟩
  unfold f__law_signs fnC
  have e : m__law_signs cs n ((startD 9 [scD ns, .non, .int (many : Int)]).set 1 none) = some (.rt (.str (tx Mq)), n + 1, st (some (.str (tx (A1 ++ A2)))) (some (.int v)) (some (.str (tx L))) x6 (some (.str (tx Mq))) x8) := by
    unfold m__law_signs
    refine seq_nx (n1 := n) (ds1 := st (some (.str (tx A1))) none none none none none) (by simp [startD, st, al1]) (seq_nx (n1 := n) (ds1 := st (some (.str (tx (A1 ++ A2)))) none none none none none) (by simp [st, al2, ov_addS (a := A1) (b := A2) (by rw [← List.length_append, k1]; decide)]) (seq_nx (n1 := n + 1) (ds1 := st (some (.str (tx (A1 ++ A2)))) (some (.int v)) none none none none) (by simp [st, hv]) (seq_nx (n1 := n + 1) (ds1 := st (some (.str (tx (A1 ++ A2)))) (some (.int v)) (some (.str (tx []))) none none none) (by simp [st, al4]) (seq_nx (for_of (n1 := n + 1) (as := rngD 0 many) ?_ f1) (seq_nx (n1 := n + 1) (ds1 := st (some (.str (tx (A1 ++ A2)))) (some (.int v)) (some (.str (tx L))) x6 (some (.str (tx []))) none) (by simp [st, al4]) (seq_nx (for_of (n1 := n + 1) (as := L.map fun c => D.str (tx [c])) ?_ f2) ?_))))))
    · simp [st, r62_nat (n := many) (by omega)]
    · simp [st]
    · simp [st]
  rw [e]; rfl
end K67

namespace K67
open PySem L2 PyProof.Rows GW
variable {cs : Nat → Addr}
theorem choose_map {α : Type} {P : α → Prop} {f : α → D} : ∀ {ys : List D}, (∀ y ∈ ys, ∃ a, P a ∧ y = f a) → ∃ l : List α, ys = l.map f ∧ ∀ a ∈ l, P a
  | [], _ => ⟨[], rfl, fun a h => by cases h⟩
  | y :: ys, h => by
    obtain ⟨a, ha, rfl⟩ := h y List.mem_cons_self
    obtain ⟨l, rfl, hl⟩ := choose_map (ys := ys) fun z hz => h z (List.mem_cons_of_mem _ hz)
    exact ⟨a :: l, rfl, fun b hb => by
      rcases List.mem_cons.mp hb with rfl | hb
      · exact ha
      · exact hl b hb⟩
theorem rows_get {T : List (List Fr)} {i : Nat} {l : List Fr} (h : T[i]? = some l) : (T.map fun l => D.lst (l.map frD))[i]? = some (.lst (l.map frD)) := by
  rw [List.getElem?_map, h]; rfl
end K67

namespace K67
open PySem L2 PyProof.Rows GW
variable {cs : Nat → Addr}
theorem notB (b : Bool) : oNotV (.bl b) = some (.bl (!b)) := by cases b <;> rfl
theorem add2 {c d : Nat} : oAdd (.str (tx [c])) (.str (tx [d])) = some (.str (tx [c, d])) := ov_addS (a := [c]) (b := [d]) (by simp)
def q (T : List (List Fr)) (i j : Nat) : Fr := (T.getD i []).getD j (0, 1)
theorem q_get {T : List (List Fr)} {n i j : Nat} (h : GT n T) (hi : i < n) (hj : j < n) : ∃ l, T[i]? = some l ∧ l[j]? = some (q T i j) ∧ l ∈ T ∧ q T i j ∈ l ∧ Gd (q T i j) := by
  have hiT : i < T.length := by rw [h.len]; exact hi
  obtain ⟨h1, h2⟩ := h.rows _ (List.getElem_mem hiT)
  have hjl : j < T[i].length := by rw [h1]; exact hj
  have e : q T i j = T[i][j] := by unfold q; simp [hiT, hjl]
  rw [e]
  exact ⟨T[i], by simp [hiT], by simp [hjl], List.getElem_mem hiT, List.getElem_mem hjl, h2 _ (List.getElem_mem hjl)⟩
def V (T : List (List Fr)) (w : Nat) (i j : Nat) : Int := un (low (q T i j)) w
def CostQ (S : List Nat) (T : List (List Fr)) (w : Nat) (kds : List (Key × D)) : Prop := ∀ (i j c d : Nat), S[i]? = some c → S[j]? = some d → valD kds (.inr (tx [c, d])) = some (.int (V T w i j))
theorem costQ {S : List Nat} {T : List (List Fr)} {w : Nat} {kds : List (Key × D)} (hT : GT S.length T) (h : CostOK S T w kds) : CostQ S T w kds := by
  intro i j c d hc hd
  have hi := (List.getElem?_eq_some_iff.mp hc).1
  have hj := (List.getElem?_eq_some_iff.mp hd).1
  obtain ⟨l, h1, h2, _⟩ := q_get hT hi hj
  exact h i j c d l _ hc hd h1 h2
section
variable {S : List Nat} {T : List (List Fr)} {o m : Fr} {w : Nat} {kds : List (Key × D)}
theorem fld_signs : oFld (cs 0) "signs" (priceD cs S T o m w kds) = some (.str (tx S)) := by unfold priceD; rw [oFld_eq]; rfl
theorem fld_costs : oFld (cs 0) "costs" (priceD cs S T o m w kds) = some (.dct kds) := by unfold priceD; rw [oFld_eq]; rfl
theorem fld_mu : oFld (cs 0) "more_units" (priceD cs S T o m w kds) = some (.int (un (low m) w)) := by unfold priceD; rw [oFld_eq]; rfl
theorem dget (hQ : CostQ S T w kds) {i j c d : Nat} (hc : S[i]? = some c) (hd : S[j]? = some d) : oDGet (.dct kds) (.str (tx [c, d])) = some (.int (V T w i j)) := by
  show valD kds (.inr (tx [c, d])) = _
  exact hQ i j c d hc hd
end
def pcOf (kds : List (Key × D)) (c d : Nat) : Int := match valD kds (.inr (tx [c, d])) with
  | some (.int v) => v
  | _ => 0
theorem lowD_fr (x : Int) (w : Nat) : frD (low (x, w)) = lowD x (w : Int) := (low_is (x, w)).symm
theorem cut60 (ns : List D) : ∃ l, oSl none (some 60) (.lst ns) = some (.lst l) ∧ l.length ≤ 60 := by
  refine ⟨_, rfl, ?_⟩
  unfold GW.cutD
  refine Nat.le_trans (List.length_take_le _ _) ?_
  unfold HT.sIx
  simp
  omega
end K67

namespace K67
open PySem L2 PyProof.Rows GW
variable {cs : Nat → Addr}
/-! ### loops that end early -/
theorem forL_upto {tg : Tg} {body : MS} {as : List D} {n : Int} {fl : Fl} (hfl : (∃ d, fl = .rt d) ∨ ∃ c fs, fl = .ex c fs) (k : Nat) (hk : k < as.length) (P : Nat → DS → Prop)
    (step : ∀ i d ds, i < k → as[i]? = some d → P i ds → ∃ ds1 ds', tg.bind d ds = some ds1 ∧ body n ds1 = some (.nx, n, ds') ∧ P (i + 1) ds')
    (stop : ∀ d ds, as[k]? = some d → P k ds → ∃ ds1 ds', tg.bind d ds = some ds1 ∧ body n ds1 = some (fl, n, ds')) {ds : DS} (h : P 0 ds) : ∃ ds', forL tg body as n ds = some (fl, n, ds') := by
  obtain ⟨r, h1, ds', rfl⟩ := forL_run (tg := tg) (body := body) (as := as) (n := n) (ds := ds) (fun i n' ds => n' = n ∧ i ≤ k ∧ P i ds) (fun r => ∃ ds', r = (fl, n, ds'))
    (fun i d n' ds hi ⟨hn, hik, hp⟩ => by
      subst hn
      by_cases hlt : i < k
      · obtain ⟨ds1, ds', a1, a2, a3⟩ := step i d ds hlt hi hp
        exact ⟨ds1, a1, .nx, n', ds', a2, rfl, by omega, a3⟩
      · have : i = k := by omega
        subst this
        obtain ⟨ds1, ds', a1, a2⟩ := stop d ds hi hp
        refine ⟨ds1, a1, fl, n', ds', a2, ?_⟩
        rcases hfl with ⟨d, rfl⟩ | ⟨c, fs, rfl⟩
        · exact ⟨ds', rfl⟩
        · exact ⟨ds', rfl⟩)
    (fun n' ds ⟨hn, hik, hp⟩ => by omega) ⟨rfl, Nat.zero_le _, h⟩
  exact ⟨ds', h1⟩
theorem first_nat {p : Nat → Prop} : ∀ (n : Nat), (∃ i, i < n ∧ p i) → ∃ i, i < n ∧ p i ∧ ∀ j, j < i → ¬ p j
  | 0, h => by obtain ⟨i, h, _⟩ := h; omega
  | n + 1, h => by
    by_cases hn : ∃ i, i < n ∧ p i
    · obtain ⟨i, h1, h2, h3⟩ := first_nat n hn
      exact ⟨i, by omega, h2, h3⟩
    · obtain ⟨i, h1, h2⟩ := h
      have : i = n := by
        rcases Nat.lt_or_ge i n with h | h
        · exact absurd ⟨i, h, h2⟩ hn
        · omega
      subst this
      exact ⟨i, h1, h2, fun j hj hp => hn ⟨j, hj, hp⟩⟩
/-! ### rows of things -/
def rowL (T : Nat → Nat → Nat) (C r : Nat) : List Nat := (List.range C).map (T r)
def rowsL (T : Nat → Nat → Nat) (R C : Nat) : List D := (List.range R).map fun r => D.str (tx (rowL T C r))
theorem row_len {T : Nat → Nat → Nat} {C r : Nat} : (rowL T C r).length = C := by simp [rowL]
theorem rows_len {T : Nat → Nat → Nat} {R C : Nat} : (rowsL T R C).length = R := by simp [rowsL]
theorem row_get {T : Nat → Nat → Nat} {C r k : Nat} (h : k < C) : (rowL T C r)[k]? = some (T r k) := by
  unfold rowL; rw [List.getElem?_map, List.getElem?_range h]; rfl
theorem rows_get' {T : Nat → Nat → Nat} {R C r : Nat} (h : r < R) : (rowsL T R C)[r]? = some (.str (tx (rowL T C r))) := by
  unfold rowsL; rw [List.getElem?_map, List.getElem?_range h]; rfl
theorem rows_inv {T : Nat → Nat → Nat} {R C r : Nat} {d : D} (h : (rowsL T R C)[r]? = some d) : r < R ∧ d = .str (tx (rowL T C r)) := by
  have hl := (List.getElem?_eq_some_iff.mp h).1
  rw [rows_len] at hl
  rw [rows_get' hl] at h
  cases h
  exact ⟨hl, rfl⟩
theorem row_inv {T : Nat → Nat → Nat} {C r k : Nat} {d : D} (h : ((rowL T C r).map fun c => D.str (tx [c]))[k]? = some d) : k < C ∧ d = .str (tx [T r k]) := by
  have hl := (List.getElem?_eq_some_iff.mp h).1
  rw [List.length_map, row_len] at hl
  rw [List.getElem?_map, row_get hl] at h
  cases h
  exact ⟨hl, rfl⟩
theorem ixL {T : Nat → Nat → Nat} {R C r : Nat} (h : r < R) : oIx (.lst (rowsL T R C)) (.int (r : Int)) = some (.str (tx (rowL T C r))) := by
  simp [rows_get' h]
theorem ixS {T : Nat → Nat → Nat} {C r k : Nat} (h : k < C) (hC : C ≤ 16777216) : oIx (.str (tx (rowL T C r))) (.int (k : Int)) = some (.str (tx [T r k])) := by
  rw [ov_ixS (l := rowL T C r) (by rw [row_len]; exact hC)]
  simp [row_get h]
structure OKB (T : Nat → Nat → Nat) (R C : Nat) : Prop where
  hR : 0 < R
  hR8 : R ≤ 40
  hC : C ≤ 100
  things : ∀ r k, r < R → k < C → T r k = 45 ∨ okS (T r k) = true
  cols : ∀ k, k < C → ∃ r, r < R ∧ T r k ≠ 45
theorem sGap : Str.ofString "-" = tx [45] := by decide +kernel
theorem fit_eval {l : List Nat} (h : ∀ c ∈ l, c = 45 ∨ okS c = true) : f_things_fit cs [.str (tx l)] = some (.ok (.bl true)) := by
  unfold f_things_fit
  apply fn0_of
  obtain ⟨n', ds', hb, rfl, x, rfl⟩ := forM_inv (tg := .one 1) (body := b_things_fit_1 cs) (f := fun c => D.str (tx [c])) (l := l) (n := 0) (ds := [some (.str (tx l)), none])
    (fun i n ds => n = 0 ∧ ∃ x, ds = [some (.str (tx l)), x])
    (fun i c n ds hi ⟨hn, x, hd⟩ => by
      subst hn hd
      refine ⟨[some (.str (tx l)), some (.str (tx [c]))], rfl, 0, [some (.str (tx l)), some (.str (tx [c]))], ?_, rfl, _, rfl⟩
      unfold b_things_fit_1
      by_cases hc : c = 45
      · simp [sGap, tx_inj, hc]
      · have := (h c (List.mem_of_getElem? hi)).resolve_left hc
        simp [sGap, tx_inj, hc, is_sign_eval, this]) ⟨rfl, none, rfl⟩
  have e : m_things_fit cs 0 (startD 2 [.str (tx l)]) = some (.rt (.bl true), 0, [some (.str (tx l)), x]) := by
    unfold m_things_fit
    exact seq_nx (for_of (n1 := 0) (as := l.map fun c => D.str (tx [c])) (by simp [startD]) hb) (by simp)
  rw [e]; rfl
theorem sign_at {T : Nat → Nat → Nat} {R C k : Nat} (B : OKB T R C) (hk : k < C) : f_has_sign_at cs [.lst (rowsL T R C), .int (k : Int)] = some (.ok (.bl true)) := by
  have hC := B.hC
  obtain ⟨r, h1, h2, h3⟩ := first_nat (p := fun r => T r k ≠ 45) R (B.cols k hk)
  unfold f_has_sign_at
  apply fn0_of
  obtain ⟨ds', hb⟩ := forL_upto (tg := .one 2) (body := b_has_sign_at_1 cs) (as := rowsL T R C) (n := 0) (fl := .rt (.bl true)) (.inl ⟨_, rfl⟩) r (by rw [rows_len]; exact h1) (fun _ ds => ∃ x, ds = [some (.lst (rowsL T R C)), some (.int (k : Int)), x])
    (fun i d ds hi hd ⟨x, he⟩ => by
      subst he
      obtain ⟨_, rfl⟩ := rows_inv hd
      refine ⟨[some (.lst (rowsL T R C)), some (.int (k : Int)), some (.str (tx (rowL T C i)))], [some (.lst (rowsL T R C)), some (.int (k : Int)), some (.str (tx (rowL T C i)))], rfl, ?_, _, rfl⟩
      unfold b_has_sign_at_1
      have := h3 i hi
      simp only [ne_eq, Decidable.not_not] at this
      simp [sGap, ixS hk (by omega), tx_inj, this])
    (fun d ds hd ⟨x, he⟩ => by
      subst he
      obtain ⟨_, rfl⟩ := rows_inv hd
      refine ⟨[some (.lst (rowsL T R C)), some (.int (k : Int)), some (.str (tx (rowL T C r)))], [some (.lst (rowsL T R C)), some (.int (k : Int)), some (.str (tx (rowL T C r)))], rfl, ?_⟩
      unfold b_has_sign_at_1
      simp [sGap, ixS hk (by omega), tx_inj, h2]) (ds := startD 3 [.lst (rowsL T R C), .int (k : Int)]) ⟨none, rfl⟩
  have e : m_has_sign_at cs 0 (startD 3 [.lst (rowsL T R C), .int (k : Int)]) = some (.rt (.bl true), 0, ds') := by
    unfold m_has_sign_at
    exact seq_rt (for_of (n1 := 0) (as := rowsL T R C) (by simp [startD]) hb)
  rw [e]; rfl
def blkD (cs : Nat → Addr) (T : Nat → Nat → Nat) (R C : Nat) : D := .obj (cs 0) [fl "rows" (.tup (rowsL T R C))]
theorem flat_rows {T : Nat → Nat → Nat} {R C : Nat} : flat (.tup (rowsL T R C)) = true := by
  show flats ((List.range R).map fun r => D.str (tx (rowL T C r))) = true
  exact flats_map (f := fun r => D.str (tx (rowL T C r))) (fun r => rfl) _
theorem block_eval {T : Nat → Nat → Nat} {R C : Nat} (B : OKB T R C) : f_Block_init cs [.lst (rowsL T R C)] = some (.ok (blkD cs T R C)) := by
  have hR := B.hR
  have hR8 := B.hR8
  have hC := B.hC
  let st : List (Str × D) → Option D → Option D → DS := fun f x2 x3 => [some (.obj (cs 0) f), some (.lst (rowsL T R C)), x2, x3]
  have l0 : oIx (.lst (rowsL T R C)) (.int 0) = some (.str (tx (rowL T C 0))) := ixL (r := 0) hR
  have len0 : ∀ r, oLen [.str (tx (rowL T C r))] = some (.int (C : Int)) := fun r => by rw [ov_lenS (l := rowL T C r) (by rw [row_len]; omega), row_len]
  obtain ⟨n1, ds1, e1, rfl, x2, rfl⟩ := forL_inv (tg := .one 2) (body := b_Block_init_1 cs) (as := rowsL T R C) (n := 0) (ds := st [] none none)
    (fun i n ds => n = 0 ∧ ∃ x2, ds = st [] x2 none)
    (fun i d n ds hi ⟨hn, x2, hd⟩ => by
      subst hn hd
      obtain ⟨hr, rfl⟩ := rows_inv hi
      refine ⟨st [] (some (.str (tx (rowL T C i)))) none, rfl, 0, st [] (some (.str (tx (rowL T C i)))) none, ?_, rfl, _, rfl⟩
      have hf := fit_eval (cs := cs) (l := rowL T C i) fun c hc => by
        obtain ⟨k, hk, rfl⟩ := List.mem_map.mp hc
        exact B.things i k hr (List.mem_range.mp hk)
      unfold b_Block_init_1
      simp only [st]
      simp [l0, len0, hf]) ⟨rfl, none, rfl⟩
  obtain ⟨n2, ds2, e2, rfl, x3, rfl⟩ := forR_inv (tg := .one 3) (body := b_Block_init_2 cs) (N := C) (n := 0) (ds := st [] x2 none)
    (fun i n ds => n = 0 ∧ ∃ x3, ds = st [] x2 x3)
    (fun i n ds hi ⟨hn, x3, hd⟩ => by
      subst hn hd
      refine ⟨st [] x2 (some (.int (i : Int))), rfl, 0, st [] x2 (some (.int (i : Int))), ?_, rfl, _, rfl⟩
      unfold b_Block_init_2
      simp [st, sign_at B hi]) ⟨rfl, none, rfl⟩
  unfold f_Block_init fnI
  have hst : startI (cs 0) 4 [.lst (rowsL T R C)] = st [] none none := rfl
  rw [hst]
  have e : m_Block_init cs 0 (st [] none none) = some (.nx, 0, st [fl "rows" (.tup (rowsL T R C))] x2 x3) := by
    unfold m_Block_init
    refine seq_nx (n1 := 0) (ds1 := st [] none none) ?_ (seq_nx (for_of (n1 := 0) (as := rowsL T R C) (by simp [st]) e1) (seq_nx (for_of (n1 := 0) (as := rngD 0 C) ?_ e2) (setF_of (d := .tup (rowsL T R C)) ?_ (by decide))))
    · have : ¬ R = 0 := by omega
      simp [st, rows_len, this]
    · have : r62 (C : Int) = true := r62_nat (by omega)
      simp only [st]
      simp [l0, len0, this]
    · simp [st]; rfl
  rw [e]
  rfl
end K67

namespace K67
open PySem L2 PyProof.Rows GW
variable {cs : Nat → Addr}
/-! ### costs -/
def sm (f : Nat → Int) : Nat → Int
  | 0 => 0
  | n + 1 => sm f n + f n
theorem sum_map (f : Nat → Int) : ∀ n : Nat, ((List.range n).map f).sum = sm f n
  | 0 => rfl
  | n + 1 => by
    rw [List.range_succ, List.map_append, List.sum_append, sum_map f n]
    simp [sm]
theorem intsD_map (f : Nat → Int) : ∀ l : List Nat, intsD (l.map fun k => D.int (f k)) = some (l.map f)
  | [] => rfl
  | a :: l => by simp [intsD, intsD_map f l]
def th (pc : Nat → Nat → Int) (M : Int) (a b : Nat) : Int := if a = 45 ∧ b = 45 then 0 else if a = 45 ∨ b = 45 then M else pc a b
section
variable {P : D} {S : List Nat} {w : Nat} {pc : Nat → Nat → Int} {M : Int}
/-- all of the table -/
def OfT (T : Nat → Nat → Nat) (R C : Nat) (S : List Nat) : Prop := ∀ r k, r < R → k < C → T r k = 45 ∨ T r k ∈ S
def pairS (pc : Nat → Nat → Int) (M : Int) (T : Nat → Nat → Nat) (C i j : Nat) : Int := sm (fun k => th pc M (T i k) (T j k)) C
def rowS (pc : Nat → Nat → Int) (M : Int) (T : Nat → Nat → Nat) (R C i : Nat) : Int := sm (fun t => pairS pc M T C i (i + 1 + t)) (R - (i + 1))
def allS (pc : Nat → Nat → Int) (M : Int) (T : Nat → Nat → Nat) (R C : Nat) : Int := sm (rowS pc M T R C) R
variable {T : Nat → Nat → Nat} {R C : Nat}
end
end K67

namespace K67
open PySem L2 PyProof.Rows GW
variable {cs : Nat → Addr}
def enD (l : List D) : List D := l.mapIdx fun i x => D.tup [.int (i : Nat), x]
theorem en_get {l : List D} {i : Nat} {d : D} (h : (enD l)[i]? = some d) : ∃ x, l[i]? = some x ∧ d = .tup [.int (i : Nat), x] := by
  unfold enD at h
  rw [List.getElem?_mapIdx] at h
  cases e : l[i]? with
  | none => rw [e] at h; cases h
  | some c => rw [e] at h; cases h; exact ⟨c, rfl, rfl⟩
theorem en_len {l : List D} : (enD l).length = l.length := by unfold enD; simp
theorem zip_self (l : List Nat) : l.zip l = l.map fun k => (k, k) := by
  induction l with
  | nil => rfl
  | cons a l ih => simp [ih]
theorem cut_from {ds : List D} {k : Nat} (hk : k ≤ ds.length) : GW.cutD ds (some (k : Int)) none = ds.drop k := by
  unfold GW.cutD
  rw [HT.sIx_none, HT.sIx_nat, Nat.min_eq_left hk, List.take_of_length_le (by rw [List.length_drop]; omega)]
theorem ov_slTup {ds : List D} {k : Nat} (h0 : 0 < k) (hk : k ≤ ds.length) : oSl (some (k : Int)) none (.tup ds) = some (.tup (ds.drop k)) := by
  show (if HT.sIx ds.length 0 (some (k : Int)) = 0 ∧ HT.sIx ds.length ds.length none = ds.length then none else some (D.tup (GW.cutD ds (some (k : Int)) none))) = _
  rw [if_neg (by rw [HT.sIx_nat]; omega), cut_from hk]
section
variable {P : D} {S : List Nat} {w : Nat} {pc : Nat → Nat → Int} {M : Int} {T : Nat → Nat → Nat} {R C : Nat}
theorem sum_pair {i j : Nat} : oSum [.lst ((List.range C).map fun k => D.int (th pc M (T i k) (T j k)))] = some (.int (pairS pc M T C i j)) := by
  show Option.map (fun bs => D.int bs.sum) (intsD ((List.range C).map fun k => D.int ((fun k => th pc M (T i k) (T j k)) k))) = _
  rw [intsD_map (fun k => th pc M (T i k) (T j k)), Option.map_some, sum_map]
  rfl
/-! ### strange signs -/
def BadC (S : List Nat) (c : Nat) : Prop := c ≠ 45 ∧ c ∉ S
theorem not_bad {S : List Nat} {c : Nat} (h : ¬ BadC S c) : c = 45 ∨ c ∈ S := by
  by_cases h1 : c = 45
  · exact .inl h1
  · by_cases h2 : c ∈ S
    · exact .inr h2
    · exact absurd ⟨h1, h2⟩ h
def sts (l : List Nat) : List D := l.map fun c => D.str (tx [c])
def txs (L : List (List Nat)) : List D := L.map fun l => D.str (tx l)
theorem sts_get {l : List Nat} {i : Nat} {d : D} (h : (sts l)[i]? = some d) : ∃ c, l[i]? = some c ∧ d = .str (tx [c]) := by
  unfold sts at h
  rw [List.getElem?_map] at h
  cases e : l[i]? with
  | none => rw [e] at h; cases h
  | some c => rw [e] at h; cases h; exact ⟨c, rfl, rfl⟩
theorem txs_get {L : List (List Nat)} {i : Nat} {d : D} (h : (txs L)[i]? = some d) : ∃ l, L[i]? = some l ∧ d = .str (tx l) := by
  unfold txs at h
  rw [List.getElem?_map] at h
  cases e : L[i]? with
  | none => rw [e] at h; cases h
  | some c => rw [e] at h; cases h; exact ⟨c, rfl, rfl⟩
def at_ (P : D) (rows : D) (x2 x3 x4 x5 : Option D) : DS := [some P, some rows, x2, x3, x4, x5]
theorem fld_rows : oFld (cs 0) "rows" (blkD cs T R C) = some (.tup (rowsL T R C)) := by unfold blkD; rw [oFld_eq]; rfl
end
end K67

namespace K67
open PySem L2 PyProof.Rows GW
variable {cs : Nat → Addr}
/-! ### blocks drawn -/
theorem m2_of {ma mc : M} {o : D → D → Option D} {n n1 n2 : Int} {ds : DS} {x y : D} (h1 : ma n ds = some (.ok x, n1)) (h2 : mc n1 ds = some (.ok y, n2)) : m2 ma mc o n ds = ret (o x y) n2 ds := by
  simp only [ev_m2, ev_mb, h1, h2]
theorem rep_ev (n : Int) (ds : DS) (R : Nat) (hR : R ≤ 8) (h : ds[3]? = some (some (.int (R : Int)))) : m2 (mLst (mCons (mC (.str "-")) (ret (some [])))) (mVar 3) oRep n ds = some (.ok (.lst (List.replicate R (.str (tx [45])))), n) := by
  have := ov_rep1 (x := D.str (tx [45])) (k := R) (by omega)
  simp [sGap, h, this]
theorem t3 (n : Int) (a b x5 x6 : Option D) (R : Nat) (hR : R ≤ 8) (L : List Nat) : m2 (mVar 4) (m2 (mLst (mCons (mC (.str "-")) (ret (some [])))) (mVar 3) oRep) oEqQ n [a, none, b, some (.int (R : Int)), some (.lst (L.map fun c => D.str (tx [c]))), x5, x6] = ret (oEqQ (.lst (L.map fun c => D.str (tx [c]))) (.lst (List.replicate R (D.str (tx [45]))))) n [a, none, b, some (.int (R : Int)), some (.lst (L.map fun c => D.str (tx [c]))), x5, x6] :=
  m2_of (x := .lst (L.map fun c => D.str (tx [c]))) (y := .lst (List.replicate R (D.str (tx [45])))) (n1 := n) (n2 := n) rfl (rep_ev _ _ R hR rfl)
theorem t4 (n : Int) (ds : DS) (R : Nat) (L : List Nat) (hq : oEqQ (.lst (L.map fun c => D.str (tx [c]))) (.lst (List.replicate R (D.str (tx [45])))) = some (.bl (decide (L = List.replicate R 45)))) : ret (oEqQ (.lst (L.map fun c => D.str (tx [c]))) (.lst (List.replicate R (D.str (tx [45]))))) n ds = some (.ok (.bl (decide (L = List.replicate R 45))), n) := by
  rw [hq]
  simp
theorem t5 {m : M} {n : Int} {ds : DS} {b : Bool} (h : m n ds = some (.ok (.bl b), n)) : mTest m n ds = some (.ok b, n) := by
  simp only [ev_test, ev_mb, h]
  simp
theorem rowL_ext {T T' : Nat → Nat → Nat} {C r : Nat} (h : ∀ k, k < C → T r k = T' r k) : rowL T C r = rowL T' C r := by
  unfold rowL
  exact List.map_congr_left fun k hk => h k (List.mem_range.mp hk)
theorem rowL_succ {T : Nat → Nat → Nat} {C r : Nat} : rowL T (C + 1) r = rowL T C r ++ [T r C] := by
  unfold rowL; rw [List.range_succ, List.map_append]; rfl
theorem rows_zero {T : Nat → Nat → Nat} {R : Nat} : rowsL T R 0 = List.replicate R (D.str (tx [])) := by
  unfold rowsL rowL; simp [List.map_const']
theorem repE_ev (n : Int) (ds : DS) (R : Nat) (hR : R ≤ 8) (h : ds[3]? = some (some (.int (R : Int)))) : m2 (mLst (mCons (mC (.str "")) (ret (some [])))) (mVar 3) oRep n ds = some (.ok (.lst (List.replicate R (.str (tx [])))), n) := by
  have := ov_rep1 (x := D.str (tx [])) (k := R) (by omega)
  simp [al4, h, this]
def putC (T : Nat → Nat → Nat) (i : Nat) (L : List Nat) : Nat → Nat → Nat := fun r k => if k = i then L.getD r 45 else T r k
/-! ### a round -/
theorem closed_of {k : Nat} {m : M} {n n1 : Int} {ds : DS} {d : D} (h : m n ds = some (.ok d, n1)) (hc : closedD k d = true) : mClosed k m n ds = some (.ok d, n1) := by
  unfold mClosed; rw [h]; simp [hc]
theorem flat_of {m : M} {n n1 : Int} {ds : DS} {d : D} (h : m n ds = some (.ok d, n1)) (hc : flat d = true) : mFlat m n ds = some (.ok d, n1) := by
  simp only [ev_flat, ev_mb, h]
  simp [hc]
theorem closed_blk {T : Nat → Nat → Nat} {R C : Nat} : closedD 1 (blkD cs T R C) = true := by
  have h : flat (.tup (rowsL T R C)) = true := flat_rows
  simp [blkD, closedD, h]
def putT (T : Nat → Nat → Nat) (r0 k0 c : Nat) : Nat → Nat → Nat := fun r k => if r = r0 ∧ k = k0 then c else T r k
theorem put_row {T : Nat → Nat → Nat} {C r k c : Nat} (hk : k < C) : (rowL T C r).take k ++ [c] ++ (rowL T C r).drop (k + 1) = rowL (putT T r k c) C r := by
  apply List.ext_getElem?
  intro i
  rw [List.append_assoc]
  have hl : ((rowL T C r).take k).length = k := by rw [List.length_take, row_len]; omega
  by_cases h1 : i < k
  · rw [List.getElem?_append_left (by omega), List.getElem?_take, if_pos h1, row_get (by omega), row_get (by omega)]
    unfold putT
    rw [if_neg (by omega)]
  · rw [List.getElem?_append_right (by omega), hl]
    by_cases h2 : i = k
    · subst h2
      rw [Nat.sub_self, row_get hk]
      unfold putT
      simp
    · obtain ⟨j, rfl⟩ : ∃ j, i = k + 1 + j := ⟨i - (k + 1), by omega⟩
      rw [show k + 1 + j - k = j + 1 by omega]
      show ((rowL T C r).drop (k + 1))[j]? = _
      rw [List.getElem?_drop]
      by_cases h3 : k + 1 + j < C
      · rw [row_get h3, row_get h3]
        unfold putT
        rw [if_neg (by omega)]
      · rw [List.getElem?_eq_none (by rw [row_len]; omega), List.getElem?_eq_none (by rw [row_len]; omega)]
theorem put_rows {T : Nat → Nat → Nat} {R C r k c : Nat} : (rowsL T R C).set r (.str (tx (rowL (putT T r k c) C r))) = rowsL (putT T r k c) R C := by
  apply List.ext_getElem?
  intro i
  rw [List.getElem?_set]
  by_cases hi : i < R
  · rw [rows_get' hi, rows_len]
    by_cases h : r = i
    · subst h
      rw [if_pos rfl, if_pos hi, rows_get' hi]
    · rw [if_neg h, rows_get' hi]
      have : rowL T C i = rowL (putT T r k c) C i := rowL_ext fun j _ => by unfold putT; rw [if_neg (by omega)]
      rw [this]
  · rw [List.getElem?_eq_none (l := rowsL (putT T r k c) R C) (by rw [rows_len]; omega)]
    split
    · rename_i h
      subst h
      rw [if_neg (by rw [rows_len]; omega)]
    · rw [List.getElem?_eq_none (by rw [rows_len]; omega)]
theorem put_ok' {T : Nat → Nat → Nat} {R C r k c : Nat} (B : OKB T R C) (hc : okS c = true) : OKB (putT T r k c) R C := by
  have c45 : c ≠ 45 := fun e => by subst e; revert hc; decide
  refine ⟨B.hR, B.hR8, B.hC, fun r' k' hr hk => ?_, fun k' hk => ?_⟩
  · unfold putT
    split
    · exact .inr hc
    · exact B.things r' k' hr hk
  · obtain ⟨r', h1, h2⟩ := B.cols k' hk
    refine ⟨r', h1, ?_⟩
    unfold putT
    split
    · exact c45
    · exact h2
end K67

namespace K67
open PySem L2 PyProof.Rows GW
variable {cs : Nat → Addr}
theorem compL_filter {α : Type} {tg : Tg} {tt : Mo Bool} {me : GW.M} {vs : List Nat} {ds : DS} {n : Int} (f g : α → D) (p : α → Bool) : ∀ (l : List α), (∀ a ∈ l, ∃ ds1, tg.bind (f a) (wipeD ds vs) = some ds1 ∧ tt n ds1 = some (.ok (p a), n) ∧ me n ds1 = some (.ok (g a), n)) → compL tg tt me vs (l.map f) n ds = some (.ok ((l.filter p).map g), n)
  | [], _ => rfl
  | a :: r, h => by
    obtain ⟨ds1, h1, h2, h3⟩ := h a List.mem_cons_self
    have ih := compL_filter (tg := tg) (tt := tt) (me := me) (vs := vs) (ds := ds) (n := n) f g p r fun b hb => h b (List.mem_cons_of_mem _ hb)
    show compL tg tt me vs (f a :: r.map f) n ds = _
    unfold compL
    cases hp : p a with
    | true =>
      rw [hp] at h2
      simp only [h1, h2, h3, ih, List.filter_cons, hp, if_true, List.map_cons]
    | false =>
      rw [hp] at h2
      simp only [h1, h2, ih, List.filter_cons, hp, Bool.false_eq_true, if_false]
theorem rng_map (N : Nat) : rngD 0 N = (List.range N).map fun (i : Nat) => D.int (i : Int) := by
  apply List.ext_getElem?
  intro i
  by_cases hi : i < N
  · cases hr : (rngD 0 N)[i]? with
    | none => rw [List.getElem?_eq_none_iff, rng_len] at hr; omega
    | some d =>
      obtain ⟨rfl, _⟩ := rng_get hr
      rw [List.getElem?_map, List.getElem?_range hi, Int.zero_add]; rfl
  · rw [List.getElem?_eq_none (by rw [rng_len]; omega), List.getElem?_eq_none (by simp; omega)]
theorem any_bls {α : Type} (b : α → Bool) (l : List α) : oAny [.lst (l.map fun a => D.bl (b a))] = some (.bl (l.any b)) := by
  have h : ∀ l : List α, blsD (l.map fun a => D.bl (b a)) = some (l.map b) := fun l => by
    induction l with
    | nil => rfl
    | cons a l ih => simp [blsD, ih]
  show Option.map (fun bs => D.bl (bs.any id)) (blsD _) = _
  rw [h]
  simp
theorem cut_to {ds : List D} {k : Nat} (hk : k ≤ ds.length) : GW.cutD ds none (some (k : Int)) = ds.take k := by
  unfold GW.cutD
  rw [HT.sIx_none, HT.sIx_nat, Nat.min_eq_left hk]
  simp
theorem sl_to {A B : List D} : oSl none (some (A.length : Int)) (.lst (A ++ B)) = some (.lst A) := by
  show some (D.lst (GW.cutD (A ++ B) none (some (A.length : Int)))) = _
  rw [cut_to (by simp), List.take_left]
theorem sl_from {A B : List D} : oSl (some (A.length : Int)) none (.lst (A ++ B)) = some (.lst B) := by
  show some (D.lst (GW.cutD (A ++ B) (some (A.length : Int)) none)) = _
  rw [cut_from (by simp), List.drop_left]
def has (X : Nat → Nat → Nat) (R k : Nat) : Bool := (List.range R).any fun r => decide (X r k ≠ 45)
variable {P : D} {S : List Nat} {T T2 : Nat → Nat → Nat} {R C R2 C2 : Nat}
theorem has_iff {X : Nat → Nat → Nat} {R k : Nat} : has X R k = true ↔ ∃ r, r < R ∧ X r k ≠ 45 := by
  unfold has
  rw [List.any_eq_true]
  constructor
  · rintro ⟨r, h1, h2⟩
    exact ⟨r, List.mem_range.mp h1, by simpa using h2⟩
  · rintro ⟨r, h1, h2⟩
    exact ⟨r, List.mem_range.mpr h1, by simpa using h2⟩
def kept (X : Nat → Nat → Nat) (R N : Nat) : List Nat := (List.range N).filter fun k => has X R k
def rowsN (T : Nat → Nat → Nat) (R C : Nat) : List (List Nat) := (List.range R).map fun r => rowL T C r
theorem rows_txs : rowsL T R C = txs (rowsN T R C) := by
  unfold rowsL txs rowsN
  rw [List.map_map]; rfl
theorem rowsN_in {l : List Nat} (h : l ∈ rowsN T R C) : ∃ r, r < R ∧ l = rowL T C r := by
  obtain ⟨r, hr, rfl⟩ := List.mem_map.mp h
  exact ⟨r, List.mem_range.mp hr, rfl⟩
theorem getD_map (l : List Nat) : (List.range l.length).map (fun k => l.getD k 45) = l := by
  apply List.ext_getElem?
  intro i
  by_cases h : i < l.length
  · rw [List.getElem?_map, List.getElem?_range h, List.getElem?_eq_getElem h]
    simp [List.getD_eq_getElem?_getD, h]
  · rw [List.getElem?_eq_none (by simp; omega), List.getElem?_eq_none (by omega)]
theorem or_f {a b : Mo Bool} {n n1 : Int} {ds : DS} {r : Option (Ot Bool × Int)} (h1 : a n ds = some (.ok false, n1)) (h2 : b n1 ds = r) : mOr a b n ds = r := by
  simp only [ev_or, ev_mb, h1]
  exact h2
theorem not_of {a : Mo Bool} {n n1 : Int} {ds : DS} {b : Bool} (h1 : a n ds = some (.ok b, n1)) : mNot a n ds = some (.ok (!b), n1) := by
  simp [h1]
theorem ov_eqT {xs ys : List (List Nat)} (hx : ∀ x ∈ xs, PyData.canLay0 (.str (tx x)) = true) (hy : ∀ x ∈ ys, PyData.canLay0 (.str (tx x)) = true) : oEqQ (.tup (xs.map fun l => D.str (tx l))) (.tup (ys.map fun l => D.str (tx l))) = some (.bl (decide (xs = ys))) := by
  have e1 : toP (.tup (xs.map fun l => D.str (tx l))) = some (.tuple (xs.map fun l => PyData.str (tx l))) := by
    show (toPs _).map PyData.tuple = _
    rw [toPs_txs]; rfl
  have e2 : toP (.tup (ys.map fun l => D.str (tx l))) = some (.tuple (ys.map fun l => PyData.str (tx l))) := by
    show (toPs _).map PyData.tuple = _
    rw [toPs_txs]; rfl
  unfold oEqQ
  rw [e1, e2]
  dsimp only
  rw [(shaped_txs hx).2, (shaped_txs hy).2]
  have : PyData.eqv (.tuple (xs.map fun l => PyData.str (tx l))) (.tuple (ys.map fun l => PyData.str (tx l))) = PyData.eqvAll (xs.map fun l => PyData.str (tx l)) (ys.map fun l => PyData.str (tx l)) := rfl
  rw [this, eqv_txs]; rfl
theorem ov_neL {xs : List (List Nat)} (hx : ∀ x ∈ xs, PyData.canLay0 (.str (tx x)) = true) : oNeQ (.lst (xs.map fun l => D.str (tx l))) (.lst (xs.map fun l => D.str (tx l))) = some (.bl false) := by
  have e1 : toP (.lst (xs.map fun l => D.str (tx l))) = some (.list (xs.map fun l => PyData.str (tx l))) := by
    show (toPs _).map PyData.list = _
    rw [toPs_txs]; rfl
  unfold oNeQ
  rw [e1]
  dsimp only
  rw [(shaped_txs hx).1]
  have : PyData.eqv (.list (xs.map fun l => PyData.str (tx l))) (.list (xs.map fun l => PyData.str (tx l))) = PyData.eqvAll (xs.map fun l => PyData.str (tx l)) (xs.map fun l => PyData.str (tx l)) := rfl
  rw [this, eqv_txs, decide_eq_true rfl]; rfl
theorem lay_rows (B : OKB T R C) : ∀ x ∈ rowsN T R C, PyData.canLay0 (.str (tx x)) = true := fun x hx => by
  obtain ⟨r, hr, rfl⟩ := rowsN_in hx
  refine lay_tx fun c hc => ?_
  obtain ⟨k, hk, rfl⟩ := List.mem_map.mp hc
  rcases B.things r k hr (List.mem_range.mp hk) with h | h
  · rw [h]; decide
  · unfold okS at h
    simp only [Bool.and_eq_true, decide_eq_true_eq] at h
    omega
theorem rows_ne (B : OKB T R C) : oNeQ (.lst (rowsL T R C)) (.lst (rowsL T R C)) = some (.bl false) := by
  rw [rows_txs]
  exact ov_neL (lay_rows B)
def T1 (l : List Nat) : Nat → Nat → Nat := fun _ k => l.getD k 45
theorem T1_row (l : List Nat) (r : Nat) : rowL (T1 l) l.length r = l := getD_map l
theorem T1_rows (l : List Nat) : rowsL (T1 l) 1 l.length = [.str (tx l)] := by
  show [D.str (tx (rowL (T1 l) l.length 0))] = _
  rw [T1_row]
theorem T1_ok {l : List Nat} (h : ∀ c ∈ l, okS c = true) (hl : l.length ≤ 100) : OKB (T1 l) 1 l.length := by
  have hm : ∀ k, k < l.length → okS (T1 l 0 k) = true ∧ T1 l 0 k ∈ l := fun k hk => by
    have e : T1 l 0 k = l[k] := by
      show l.getD k 45 = _
      rw [List.getD_eq_getElem?_getD, List.getElem?_eq_getElem hk]; rfl
    rw [e]
    exact ⟨h _ (List.getElem_mem hk), List.getElem_mem hk⟩
  refine ⟨Nat.one_pos, by decide, hl, fun r k hr hk => .inr (hm k hk).1, fun k hk => ⟨0, Nat.one_pos, fun e => ?_⟩⟩
  have := (hm k hk).1
  rw [e] at this
  revert this; decide
end K67

namespace K67
open PySem L2 PyProof.Rows GW
variable {cs : Nat → Addr}
/-! ### blocks that are refused -/
theorem forL_uptoZ {tg : Tg} {body : MS} {as : List D} {n : Int} {fl : Fl} (hfl : (∃ d, fl = .rt d) ∨ ∃ c fs, fl = .ex c fs) (k : Nat) (hk : k < as.length) (P : Nat → DS → Prop) (Z : DS → Prop)
    (step : ∀ i d ds, i < k → as[i]? = some d → P i ds → ∃ ds1 ds', tg.bind d ds = some ds1 ∧ body n ds1 = some (.nx, n, ds') ∧ P (i + 1) ds')
    (stop : ∀ d ds, as[k]? = some d → P k ds → ∃ ds1 ds', tg.bind d ds = some ds1 ∧ body n ds1 = some (fl, n, ds') ∧ Z ds') {ds : DS} (h : P 0 ds) : ∃ ds', forL tg body as n ds = some (fl, n, ds') ∧ Z ds' := by
  obtain ⟨r, h1, ds', rfl, hz⟩ := forL_run (tg := tg) (body := body) (as := as) (n := n) (ds := ds) (fun i n' ds => n' = n ∧ i ≤ k ∧ P i ds) (fun r => ∃ ds', r = (fl, n, ds') ∧ Z ds')
    (fun i d n' ds hi ⟨hn, hik, hp⟩ => by
      subst hn
      by_cases hlt : i < k
      · obtain ⟨ds1, ds', a1, a2, a3⟩ := step i d ds hlt hi hp
        exact ⟨ds1, a1, .nx, n', ds', a2, rfl, by omega, a3⟩
      · have : i = k := by omega
        subst this
        obtain ⟨ds1, ds', a1, a2, a4⟩ := stop d ds hi hp
        refine ⟨ds1, a1, fl, n', ds', a2, ?_⟩
        rcases hfl with ⟨d, rfl⟩ | ⟨c, fs, rfl⟩
        · exact ⟨ds', rfl, a4⟩
        · exact ⟨ds', rfl, a4⟩)
    (fun n' ds ⟨hn, hik, hp⟩ => by omega) ⟨rfl, Nat.zero_le _, h⟩
  exact ⟨ds', h1, hz⟩
def okc (c : Nat) : Bool := decide (c = 45) || okS c
theorem ofit_at {l : List Nat} {k c : Nat} (hk : l[k]? = some c) (hc : okc c = false) : f_things_fit cs [.str (tx l)] = some (.ok (.bl false)) := by
  obtain ⟨k, ⟨c, hk, hc⟩, hmin⟩ : ∃ i, (∃ c, l[i]? = some c ∧ okc c = false) ∧ ∀ j, j < i → ¬ ∃ c, l[j]? = some c ∧ okc c = false := by
    obtain ⟨i, _, h2, h3⟩ := first_nat (p := fun i => ∃ c, l[i]? = some c ∧ okc c = false) (k + 1) ⟨k, by omega, c, hk, hc⟩
    exact ⟨i, h2, h3⟩
  have hkl : k < l.length := (List.getElem?_eq_some_iff.mp hk).1
  unfold f_things_fit
  apply fn0_of
  obtain ⟨ds', hb⟩ := forL_upto (tg := .one 1) (body := b_things_fit_1 cs) (as := l.map fun c => D.str (tx [c])) (n := 0) (fl := .rt (.bl false)) (.inl ⟨_, rfl⟩) k (by rw [List.length_map]; exact hkl) (fun _ ds => ∃ x, ds = [some (.str (tx l)), x])
    (fun i d ds hi hd ⟨x, he⟩ => by
      subst he
      rw [List.getElem?_map] at hd
      obtain ⟨c', hc', rfl⟩ := Option.map_eq_some_iff.mp hd
      refine ⟨[some (.str (tx l)), some (.str (tx [c']))], [some (.str (tx l)), some (.str (tx [c']))], rfl, ?_, _, rfl⟩
      have h := hmin i hi
      have h : okc c' = true := by
        cases q : okc c' with
        | true => rfl
        | false => exact absurd ⟨c', hc', q⟩ h
      unfold okc at h
      unfold b_things_fit_1
      by_cases hz : c' = 45
      · simp [sGap, tx_inj, hz]
      · simp only [hz, decide_false, Bool.false_or] at h
        simp [sGap, tx_inj, hz, is_sign_eval, h])
    (fun d ds hd ⟨x, he⟩ => by
      subst he
      rw [List.getElem?_map, hk] at hd
      cases hd
      refine ⟨[some (.str (tx l)), some (.str (tx [c]))], [some (.str (tx l)), some (.str (tx [c]))], rfl, ?_⟩
      unfold okc at hc
      simp only [Bool.or_eq_false_iff, decide_eq_false_iff_not] at hc
      unfold b_things_fit_1
      simp [sGap, tx_inj, hc.1, is_sign_eval, hc.2]) (ds := startD 2 [.str (tx l)]) ⟨none, rfl⟩
  have e : m_things_fit cs 0 (startD 2 [.str (tx l)]) = some (.rt (.bl false), 0, ds') := by
    unfold m_things_fit
    exact seq_rt (for_of (n1 := 0) (as := l.map fun c => D.str (tx [c])) (by simp [startD]) hb)
  rw [e]; rfl
theorem fit_ok {l : List Nat} (h : ∀ c ∈ l, okc c = true) : f_things_fit cs [.str (tx l)] = some (.ok (.bl true)) := fit_eval fun c hc => by
  have := h c hc
  unfold okc at this
  simpa using this
/-- no row -/
theorem block_none : f_Block_init cs [.lst []] = some (.ex 5 []) := by
  unfold f_Block_init fnI
  have hst : startI (cs 0) 4 [.lst []] = [some (.obj (cs 0) []), some (.lst []), none, none] := rfl
  rw [hst]
  have e : m_Block_init cs 0 [some (.obj (cs 0) []), some (.lst []), none, none] = some (.ex 5 [], 0, [some (.obj (cs 0) []), some (.lst []), none, none]) := by
    unfold m_Block_init
    exact seq_ex (by simp)
  rw [e]; rfl
/-- lengths that differ, or a strange thing -/
theorem block_row {L : List (List Nat)} (hl : L.length ≤ 100) (hw : ∀ l ∈ L, l.length ≤ 1000) {r : Nat} (hr : r < L.length) (h : (L.getD r []).length ≠ (L.getD 0 []).length ∨ ∃ c ∈ L.getD r [], okc c = false) : f_Block_init cs [.lst (txs L)] = some (.ex 5 []) := by
  obtain ⟨r, hr, h, hmin⟩ := first_nat (p := fun r => (L.getD r []).length ≠ (L.getD 0 []).length ∨ ∃ c ∈ L.getD r [], okc c = false) L.length ⟨r, hr, h⟩
  have hzero : L[0]? = some (L.getD 0 []) := by rw [List.getD_eq_getElem?_getD, List.getElem?_eq_getElem (by omega)]; rfl
  generalize L.getD 0 [] = z at *
  have gd : ∀ {i : Nat} {l : List Nat}, L[i]? = some l → L.getD i [] = l := fun h => by rw [List.getD_eq_getElem?_getD, h]; rfl
  have hw0 : z.length ≤ 1000 := hw _ (List.mem_of_getElem? hzero)
  let st : Option D → DS := fun x2 => [some (.obj (cs 0) []), some (.lst (txs L)), x2, none]
  have l0 : oIx (.lst (txs L)) (.int 0) = some (.str (tx z)) := by
    have : (txs L)[0]? = some (D.str (tx z)) := by
      unfold txs
      rw [List.getElem?_map, hzero]; rfl
    exact (atI_of (l := txs L) (i := 0) (by omega)).trans this
  have len0 : oLen [.str (tx (z))] = some (.int ((z).length : Int)) := ov_lenS (by omega)
  obtain ⟨ds', hb, x', rfl⟩ := forL_uptoZ (tg := .one 2) (body := b_Block_init_1 cs) (as := txs L) (n := 0) (fl := .ex 5 []) (.inr ⟨_, _, rfl⟩) r (by unfold txs; rw [List.length_map]; exact hr) (fun _ ds => ∃ x, ds = st x) (fun ds => ∃ x, ds = st x)
    (fun i d ds hi hd ⟨x, he⟩ => by
      subst he
      obtain ⟨l, hll, rfl⟩ := txs_get hd
      have h := hmin i hi
      rw [gd hll] at h
      have h1 : l.length = (z).length := Classical.byContradiction fun q => h (.inl q)
      have h2 : ∀ c ∈ l, okc c = true := fun c hc => by
        cases q : okc c with
        | true => rfl
        | false => exact absurd (.inr ⟨c, hc, q⟩) h
      refine ⟨st (some (.str (tx l))), st (some (.str (tx l))), rfl, ?_, _, rfl⟩
      have hf := fit_ok (cs := cs) h2
      have ll : oLen [.str (tx l)] = some (.int (l.length : Int)) := ov_lenS (by omega)
      unfold b_Block_init_1
      simp only [st]
      simp [l0, len0, ll, h1, hf])
    (fun d ds hd ⟨x, he⟩ => by
      subst he
      obtain ⟨l, hll, rfl⟩ := txs_get hd
      rw [gd hll] at h
      have hwl : l.length ≤ 1000 := hw _ (List.mem_of_getElem? hll)
      have ll : oLen [.str (tx l)] = some (.int (l.length : Int)) := ov_lenS (by omega)
      by_cases h1 : l.length = (z).length
      · obtain ⟨c, hc, hcc⟩ := h.resolve_left fun q => q h1
        obtain ⟨k, hk⟩ := List.getElem?_of_mem hc
        have hf := ofit_at (cs := cs) hk hcc
        refine ⟨st (some (.str (tx l))), st (some (.str (tx l))), rfl, ?_, _, rfl⟩
        unfold b_Block_init_1
        simp only [st]
        simp [l0, len0, ll, h1, hf]
      · refine ⟨st (some (.str (tx l))), st (some (.str (tx l))), rfl, ?_, _, rfl⟩
        have h1' : ¬ (l.length : Int) = ((z).length : Int) := by omega
        unfold b_Block_init_1
        simp only [st]
        simp [l0, len0, ll, h1']) (ds := st none) ⟨none, rfl⟩
  unfold f_Block_init fnI
  have hst : startI (cs 0) 4 [.lst (txs L)] = st none := rfl
  rw [hst]
  have e : m_Block_init cs 0 (st none) = some (.ex 5 [], 0, st x') := by
    unfold m_Block_init
    refine seq_nx (n1 := 0) (ds1 := st none) ?_ (seq_ex (for_of (n1 := 0) (as := txs L) (by simp [st]) hb))
    have : ¬ L.length = 0 := by omega
    have : L ≠ [] := fun q => by rw [q] at this; exact this rfl
    simp [st, txs, this]
  rw [e]
  rfl
/-- has_sign_at's answer -/
theorem sign_val (b : Bool) {X : Nat → Nat → Nat} {R C k : Nat} (hC : C ≤ 1000) (hk : k < C) : f_has_sign_at cs [seqD b (rowsL X R C), .int (k : Int)] = some (.ok (.bl (has X R k))) := by
  cases hh : has X R k with
  | true =>
    obtain ⟨r, h1, h2, h3⟩ := first_nat (p := fun r => X r k ≠ 45) R (has_iff.mp hh)
    unfold f_has_sign_at
    apply fn0_of
    obtain ⟨ds', hb⟩ := forL_upto (tg := .one 2) (body := b_has_sign_at_1 cs) (as := rowsL X R C) (n := 0) (fl := .rt (.bl true)) (.inl ⟨_, rfl⟩) r (by rw [rows_len]; exact h1) (fun _ ds => ∃ x, ds = [some (seqD b (rowsL X R C)), some (.int (k : Int)), x])
      (fun i d ds hi hd ⟨x, he⟩ => by
        subst he
        obtain ⟨_, rfl⟩ := rows_inv hd
        refine ⟨[some (seqD b (rowsL X R C)), some (.int (k : Int)), some (.str (tx (rowL X C i)))], [some (seqD b (rowsL X R C)), some (.int (k : Int)), some (.str (tx (rowL X C i)))], rfl, ?_, _, rfl⟩
        unfold b_has_sign_at_1
        have := h3 i hi
        simp only [ne_eq, Decidable.not_not] at this
        simp [sGap, ixS hk (by omega), tx_inj, this])
      (fun d ds hd ⟨x, he⟩ => by
        subst he
        obtain ⟨_, rfl⟩ := rows_inv hd
        refine ⟨[some (seqD b (rowsL X R C)), some (.int (k : Int)), some (.str (tx (rowL X C r)))], [some (seqD b (rowsL X R C)), some (.int (k : Int)), some (.str (tx (rowL X C r)))], rfl, ?_⟩
        unfold b_has_sign_at_1
        simp [sGap, ixS hk (by omega), tx_inj, h2]) (ds := startD 3 [seqD b (rowsL X R C), .int (k : Int)]) ⟨none, rfl⟩
    have e : m_has_sign_at cs 0 (startD 3 [seqD b (rowsL X R C), .int (k : Int)]) = some (.rt (.bl true), 0, ds') := by
      unfold m_has_sign_at
      exact seq_rt (for_of (n1 := 0) (as := rowsL X R C) (by simp [startD]) hb)
    rw [e]; rfl
  | false =>
    have hno : ∀ r, r < R → X r k = 45 := fun r hr => Classical.byContradiction fun q => by
      have := has_iff.mpr ⟨r, hr, q⟩
      rw [hh] at this; cases this
    unfold f_has_sign_at
    apply fn0_of
    obtain ⟨n', ds', hb, rfl, x, rfl⟩ := forL_inv (tg := .one 2) (body := b_has_sign_at_1 cs) (as := rowsL X R C) (n := 0) (ds := startD 3 [seqD b (rowsL X R C), .int (k : Int)]) (fun _ n ds => n = 0 ∧ ∃ x, ds = [some (seqD b (rowsL X R C)), some (.int (k : Int)), x])
      (fun i d n ds hd ⟨hn, x, he⟩ => by
        subst hn he
        obtain ⟨hr, rfl⟩ := rows_inv hd
        refine ⟨[some (seqD b (rowsL X R C)), some (.int (k : Int)), some (.str (tx (rowL X C i)))], rfl, 0, [some (seqD b (rowsL X R C)), some (.int (k : Int)), some (.str (tx (rowL X C i)))], ?_, rfl, _, rfl⟩
        unfold b_has_sign_at_1
        simp [sGap, ixS hk (by omega), tx_inj, hno i hr]) ⟨rfl, none, rfl⟩
    have e : m_has_sign_at cs 0 (startD 3 [seqD b (rowsL X R C), .int (k : Int)]) = some (.rt (.bl false), 0, [some (seqD b (rowsL X R C)), some (.int (k : Int)), x]) := by
      unfold m_has_sign_at
      exact seq_nx (for_of (n1 := 0) (as := rowsL X R C) (by simp [startD]) hb) (by simp)
    rw [e]; rfl
/-- what Block answers for rows of one length and lawful things -/
structure Fits (X : Nat → Nat → Nat) (R C : Nat) : Prop where
  hR : 0 < R
  hR8 : R ≤ 40
  hC : C ≤ 100
  things : ∀ r k, r < R → k < C → X r k = 45 ∨ okS (X r k) = true
theorem first_loop (b : Bool) {X : Nat → Nat → Nat} {R C : Nat} (B : Fits X R C) : ∃ x2, forL (.one 2) (b_Block_init_1 cs) (rowsL X R C) 0 [some (.obj (cs 0) []), some (seqD b (rowsL X R C)), none, none] = some (.nx, 0, [some (.obj (cs 0) []), some (seqD b (rowsL X R C)), x2, none]) := by
  have hR := B.hR
  have hC := B.hC
  have l0 : oIx (seqD b (rowsL X R C)) (.int 0) = some (.str (tx (rowL X C 0))) := by
    cases b
    · exact ixL (r := 0) hR
    · show oIx (.tup _) _ = _
      exact (atI_of (l := rowsL X R C) (i := 0) (by omega)).trans (rows_get' (r := 0) hR)
  have len0 : ∀ r, oLen [.str (tx (rowL X C r))] = some (.int (C : Int)) := fun r => by rw [ov_lenS (l := rowL X C r) (by rw [row_len]; omega), row_len]
  obtain ⟨n1, ds1, e1, rfl, x2, rfl⟩ := forL_inv (tg := .one 2) (body := b_Block_init_1 cs) (as := rowsL X R C) (n := 0) (ds := [some (.obj (cs 0) []), some (seqD b (rowsL X R C)), none, none])
    (fun i n ds => n = 0 ∧ ∃ x2, ds = [some (.obj (cs 0) []), some (seqD b (rowsL X R C)), x2, none])
    (fun i d n ds hi ⟨hn, x2, hd⟩ => by
      subst hn hd
      obtain ⟨hr, rfl⟩ := rows_inv hi
      refine ⟨[some (.obj (cs 0) []), some (seqD b (rowsL X R C)), some (.str (tx (rowL X C i))), none], rfl, 0, [some (.obj (cs 0) []), some (seqD b (rowsL X R C)), some (.str (tx (rowL X C i))), none], ?_, rfl, _, rfl⟩
      have hf := fit_eval (cs := cs) (l := rowL X C i) fun c hc => by
        obtain ⟨k, hk, rfl⟩ := List.mem_map.mp hc
        exact B.things i k hr (List.mem_range.mp hk)
      unfold b_Block_init_1
      simp [l0, len0, hf]) ⟨rfl, none, rfl⟩
  exact ⟨x2, e1⟩
theorem block_evalB (b : Bool) {X : Nat → Nat → Nat} {R C : Nat} (B : OKB X R C) : f_Block_init cs [seqD b (rowsL X R C)] = some (.ok (blkD cs X R C)) := by
  have hR := B.hR
  have hC := B.hC
  have l0 : oIx (seqD b (rowsL X R C)) (.int 0) = some (.str (tx (rowL X C 0))) := by
    cases b
    · exact ixL (r := 0) hR
    · show oIx (.tup _) _ = _
      exact (atI_of (l := rowsL X R C) (i := 0) (by omega)).trans (rows_get' (r := 0) hR)
  have len0 : ∀ r, oLen [.str (tx (rowL X C r))] = some (.int (C : Int)) := fun r => by rw [ov_lenS (l := rowL X C r) (by rw [row_len]; omega), row_len]
  let st : List (Str × D) → Option D → Option D → DS := fun f x2 x3 => [some (.obj (cs 0) f), some (seqD b (rowsL X R C)), x2, x3]
  obtain ⟨x2, e1⟩ := first_loop (cs := cs) b (X := X) (R := R) (C := C) ⟨B.hR, B.hR8, B.hC, B.things⟩
  obtain ⟨n2, ds2, e2, rfl, x3, rfl⟩ := forR_inv (tg := .one 3) (body := b_Block_init_2 cs) (N := C) (n := 0) (ds := st [] x2 none)
    (fun i n ds => n = 0 ∧ ∃ x3, ds = st [] x2 x3)
    (fun i n ds hi ⟨hn, x3, hd⟩ => by
      subst hn hd
      refine ⟨st [] x2 (some (.int (i : Int))), rfl, 0, st [] x2 (some (.int (i : Int))), ?_, rfl, _, rfl⟩
      have hs := sign_val (cs := cs) b (X := X) (R := R) (C := C) (k := i) (by omega) hi
      rw [has_iff.mpr (B.cols i hi)] at hs
      unfold b_Block_init_2
      simp [st, hs]) ⟨rfl, none, rfl⟩
  unfold f_Block_init fnI
  have hst : startI (cs 0) 4 [seqD b (rowsL X R C)] = st [] none none := rfl
  rw [hst]
  have e : m_Block_init cs 0 (st [] none none) = some (.nx, 0, st [fl "rows" (.tup (rowsL X R C))] x2 x3) := by
    unfold m_Block_init
    refine seq_nx (n1 := 0) (ds1 := st [] none none) ?_ (seq_nx (for_of (n1 := 0) (as := rowsL X R C) (by simp [st]) e1) (seq_nx (for_of (n1 := 0) (as := rngD 0 C) ?_ e2) (setF_of (d := .tup (rowsL X R C)) ?_ (by decide))))
    · have : ¬ R = 0 := by omega
      simp [st, rows_len, this]
    · have : r62 (C : Int) = true := r62_nat (by omega)
      simp [st, l0, len0, this]
    · cases b <;> simp [st, seqD] <;> rfl
  rw [e]
  rfl
/-- a column of gaps alone -/
theorem block_gap {X : Nat → Nat → Nat} {R C k : Nat} (B : Fits X R C) (hk : k < C) (h : has X R k = false) : f_Block_init cs [.lst (rowsL X R C)] = some (.ex 5 []) := by
  obtain ⟨k, hk, h, hmin⟩ := first_nat (p := fun k => has X R k = false) C ⟨k, hk, h⟩
  have hR := B.hR
  have hC := B.hC
  have l0 : oIx (.lst (rowsL X R C)) (.int 0) = some (.str (tx (rowL X C 0))) := ixL (r := 0) hR
  have len0 : ∀ r, oLen [.str (tx (rowL X C r))] = some (.int (C : Int)) := fun r => by rw [ov_lenS (l := rowL X C r) (by rw [row_len]; omega), row_len]
  let st : Option D → Option D → DS := fun x2 x3 => [some (.obj (cs 0) []), some (.lst (rowsL X R C)), x2, x3]
  obtain ⟨x2, e1⟩ := first_loop (cs := cs) false B
  obtain ⟨ds2, e2, x3, rfl⟩ := forL_uptoZ (tg := .one 3) (body := b_Block_init_2 cs) (as := rngD 0 C) (n := 0) (fl := .ex 5 []) (.inr ⟨_, _, rfl⟩) k (by rw [rng_len]; exact hk) (fun _ ds => ∃ x3, ds = st x2 x3) (fun ds => ∃ x3, ds = st x2 x3)
    (fun i d ds hi hd ⟨x3, he⟩ => by
      subst he
      obtain ⟨rfl, _⟩ := rng_get hd
      refine ⟨st x2 (some (.int (0 + (i : Int)))), st x2 (some (.int (0 + (i : Int)))), rfl, ?_, _, rfl⟩
      have hs := sign_val (cs := cs) false (X := X) (R := R) (C := C) (k := i) (by omega) (by omega)
      have : has X R i = true := by
        cases q : has X R i with
        | true => rfl
        | false => exact absurd q (hmin i hi)
      rw [this] at hs
      have hs : f_has_sign_at cs [.lst (rowsL X R C), .int (i : Int)] = some (.ok (.bl true)) := hs
      unfold b_Block_init_2
      simp [st, hs])
    (fun d ds hd ⟨x3, he⟩ => by
      subst he
      obtain ⟨rfl, _⟩ := rng_get hd
      refine ⟨st x2 (some (.int (0 + (k : Int)))), st x2 (some (.int (0 + (k : Int)))), rfl, ?_, _, rfl⟩
      have hs := sign_val (cs := cs) false (X := X) (R := R) (C := C) (k := k) (by omega) hk
      rw [h] at hs
      have hs : f_has_sign_at cs [.lst (rowsL X R C), .int (k : Int)] = some (.ok (.bl false)) := hs
      unfold b_Block_init_2
      simp [st, hs]) (ds := st x2 none) ⟨none, rfl⟩
  unfold f_Block_init fnI
  have hst : startI (cs 0) 4 [.lst (rowsL X R C)] = st none none := rfl
  rw [hst]
  have e : m_Block_init cs 0 (st none none) = some (.ex 5 [], 0, st x2 x3) := by
    unfold m_Block_init
    refine seq_nx (n1 := 0) (ds1 := st none none) ?_ (seq_nx (for_of (n1 := 0) (as := rowsL X R C) (by simp [st]) e1) (seq_ex (for_of (n1 := 0) (as := rngD 0 C) ?_ e2)))
    · have : ¬ R = 0 := by omega
      simp [st, rows_len, this]
    · have : r62 (C : Int) = true := r62_nat (by omega)
      have l0' : oIx (seqD false (rowsL X R C)) (.int 0) = some (.str (tx (rowL X C 0))) := l0
      simp [st, l0', len0, this]
  rw [e]
  rfl
end K67

namespace K67
open PySem L2 PyProof.Rows GW
variable {cs : Nat → Addr}
theorem same_int (k : Nat) (a : Int) : f__law_same cs (k + 1) [.int a, .int a] = some (.ok (.bl true)) := by
  show fn0 5 (m__law_same cs (f__law_same cs k)) _ = _
  apply fn0_of
  have isI : oIs (.int a) .non = some (.bl false) := rfl
  unfold m__law_same
  simp [startD, notB, isI]
theorem same_str (k : Nat) (x : Str) : f__law_same cs (k + 1) [.str x, .str x] = some (.ok (.bl true)) := by
  show fn0 5 (m__law_same cs (f__law_same cs k)) _ = _
  apply fn0_of
  have isS : oIs (.str x) .non = some (.bl false) := rfl
  unfold m__law_same
  simp [startD, isS]
theorem zip_selfD {α : Type} (l : List α) : l.zip l = l.map fun k => (k, k) := by
  induction l with
  | nil => rfl
  | cons a l ih => simp [ih]
theorem all_bls {α : Type} (l : List α) : oAll [.lst (l.map fun _ => D.bl true)] = some (.bl true) := by
  have h : ∀ l : List α, blsD (l.map fun _ => D.bl true) = some (l.map fun _ => true) := fun l => by
    induction l with
    | nil => rfl
    | cons a l ih => simp [blsD, ih]
  show Option.map (fun bs => D.bl (bs.all id)) (blsD _) = _
  rw [h]
  simp
theorem same_seq {α : Type} {b : Bool} {k : Nat} {f : α → D} {l : List α} (hl : l.length ≤ 1000000) (h : ∀ a ∈ l, f__law_same cs k [f a, f a] = some (.ok (.bl true))) : f__law_same cs (k + 1) [seqD b (l.map f), seqD b (l.map f)] = some (.ok (.bl true)) := by
  show fn0 5 (m__law_same cs (f__law_same cs k)) _ = _
  apply fn0_of
  have lc := lc_of_comp (mi := mZip2 (mCons (mVar 0) (mCons (mVar 1) (ret (some []))))) (tg := .tup [3, 4]) (tt := mYes) (me := mCall (pureF (f__law_same cs k)) (mCons (mVar 3) (mCons (mVar 4) (ret (some []))))) (vs := [3, 4]) (n := 0) (n1 := 0) (ds := [some (seqD b (l.map f)), some (seqD b (l.map f)), none, none, none]) (as := l.map fun a => D.tup [f a, f a]) (by
      cases b <;> simp [mZip2, oZip2, seqD, zip_selfD, Function.comp_def])
    (compL_map (fun a => D.tup [f a, f a]) (fun _ => .bl true) l fun a ha => ⟨_, rfl, by simp [wipeD, h a ha]⟩) (by rw [List.length_map]; omega)
  have e : m__law_same cs (f__law_same cs k) 0 (startD 5 [seqD b (l.map f), seqD b (l.map f)]) = some (.rt (.bl true), 0, [some (seqD b (l.map f)), some (seqD b (l.map f)), none, none, none]) := by
    unfold m__law_same
    have hlen : oLen [seqD b (l.map f)] = some (.int (l.length : Int)) := by cases b <;> simp [seqD]
    refine seq_nx (n1 := 0) (ds1 := [some (seqD b (l.map f)), some (seqD b (l.map f)), none, none, none]) (by cases b <;> simp [seqD, startD, isT]) (seq_rt (if_t (n1 := 0) (by cases b <;> simp [seqD, startD, isT]) (seq_nx (n1 := 0) (ds1 := [some (seqD b (l.map f)), some (seqD b (l.map f)), none, none, none]) (by cases b <;> simp [seqD, startD, isT]) (seq_nx (n1 := 0) (ds1 := [some (seqD b (l.map f)), some (seqD b (l.map f)), none, none, none]) (by cases b <;> simp [seqD, startD, isT]) (ret_of ?_)))))
    simp only [ev_cb, ev_cons, ev_mb, lc, ev_ret, all_bls]
  rw [e]; rfl
end K67

namespace K67
open PySem L2 PyProof.Rows GW TL
variable {cs : Nat → Addr} {T : Nat → Nat → Nat} {R C : Nat}
theorem call_ok {f : List D → Option (Ot D)} {ms : Mo (List D)} {n n1 : Int} {ds : DS} {as : List D} {d : D} (h : ms n ds = some (.ok as, n1)) (hf : f as = some (.ok d)) : mCall (pureF f) ms n ds = some (.ok d, n1) := by
  simp only [ev_call, ev_mb, h, ev_pure, hf, Option.map_some]
theorem callC_ok {f : FM} {ms : Mo (List D)} {n n1 n2 : Int} {ds : DS} {as : List D} {d : D} (h : ms n ds = some (.ok as, n1)) (hf : f n1 as = some (.ok d, n2)) : mCall f ms n ds = some (.ok d, n2) := by
  simp only [ev_call, ev_mb, h, hf]
theorem cons_ok {m : GW.M} {ms : Mo (List D)} {n n1 n2 : Int} {ds : DS} {d : D} {as : List D} (h : m n ds = some (.ok d, n1)) (h2 : ms n1 ds = some (.ok as, n2)) : mCons m ms n ds = some (.ok (d :: as), n2) := by
  simp only [ev_cons, ev_mb, h, h2, ev_ret]
theorem nil_ok {n : Int} {ds : DS} : (ret (some []) : Mo (List D)) n ds = some (.ok [], n) := rfl
theorem var_ok {i : Nat} {n : Int} {ds : DS} {d : D} (h : ds[i]? = some (some d)) : mVar i n ds = some (.ok d, n) := by
  rw [ev_var, h]
theorem lst_ok {ms : Mo (List D)} {n n1 : Int} {ds : DS} {as : List D} (h : ms n ds = some (.ok as, n1)) (hl : as.length ≤ 16777216) : mLst ms n ds = some (.ok (.lst as), n1) := by
  simp only [ev_lst, ev_mb, h, ev_ret, if_pos hl]
theorem tup_ok {ms : Mo (List D)} {n n1 : Int} {ds : DS} {as : List D} (h : ms n ds = some (.ok as, n1)) (hl : as.length ≤ 16777216) : mTup ms n ds = some (.ok (.tup as), n1) := by
  simp only [ev_tup, ev_mb, h, ev_ret, if_pos hl]
theorem cb_ok {ms : Mo (List D)} {o : List D → Option D} {n n1 : Int} {ds : DS} {as : List D} {d : D} (h : ms n ds = some (.ok as, n1)) (ho : o as = some d) : mCB ms o n ds = some (.ok d, n1) := by
  simp only [ev_cb, ev_mb, h, ev_ret, ho]
theorem m1_ok {m : GW.M} {o : D → Option D} {n n1 : Int} {ds : DS} {x d : D} (h : m n ds = some (.ok x, n1)) (ho : o x = some d) : m1 m o n ds = some (.ok d, n1) := by
  simp only [ev_m1, ev_mb, h, ev_ret, ho]
theorem m2_ok {ma mc : GW.M} {o : D → D → Option D} {n n1 n2 : Int} {ds : DS} {x y d : D} (h1 : ma n ds = some (.ok x, n1)) (h2 : mc n1 ds = some (.ok y, n2)) (ho : o x y = some d) : m2 ma mc o n ds = some (.ok d, n2) := by
  simp only [ev_m2, ev_mb, h1, h2, ev_ret, ho]
theorem mm1_ok {mo me : GW.M} {o : Str → D → Option D} {n n1 n2 : Int} {ds : DS} {x : Str} {y d : D} (h1 : mo n ds = some (.ok (.str x), n1)) (h2 : me n1 ds = some (.ok y, n2)) (ho : o x y = some d) : mM1 mo me o n ds = some (.ok d, n2) := by
  unfold mM1
  simp only [ev_mb, h1, h2, ev_ret, ho]
theorem test_no {m : GW.M} {n n1 : Int} {ds : DS} (h : m n ds = some (.ok (.bl true), n1)) : mNot (mTest m) n ds = some (.ok false, n1) := by
  have : mTest m n ds = some (.ok true, n1) := by
    simp only [ev_test, ev_mb, h]
    simp
  exact (not_of this).trans rfl
/-! ### lines -/
theorem sNl : Str.ofString "\n" = tx [10] := by decide +kernel
def JTx (L : List (List Nat)) : Str := Txt.join (tx [10]) (L.map tx)
theorem tlx (l : List Nat) : tl (tx l) = l := by show (tx l).cps.toList = l; simp
theorem joinL_len (L : List (List Nat)) : (joinL [10] L).length ≤ (L.map List.length).sum + L.length := by
  induction L with
  | nil => simp [joinL]
  | cons a L ih =>
    cases L with
    | nil => simp [joinL]
    | cons b r =>
      show (a ++ ([10] ++ joinL [10] (b :: r))).length ≤ _
      simp only [List.length_append, List.map_cons, List.sum_cons, List.length_cons] at ih ⊢
      simp at ih ⊢
      omega
theorem JTx_tl (L : List (List Nat)) : tl (JTx L) = joinL [10] L := by
  unfold JTx
  rw [join_eq, tl_join, tlx, List.map_map]
  have : (tl ∘ tx) = id := funext tlx
  rw [this, List.map_id]
theorem sum_le {L : List (List Nat)} {w : Nat} (hw : ∀ l ∈ L, l.length ≤ w) : (L.map List.length).sum ≤ L.length * w := by
  induction L with
  | nil => simp
  | cons a L ih =>
    have h1 := hw a (by simp)
    have h2 := ih fun l hl => hw l (by simp [hl])
    simp only [List.map_cons, List.sum_cons, List.length_cons, Nat.succ_mul]
    omega
theorem JTx_len {L : List (List Nat)} (hl : L.length ≤ 20) (hw : ∀ l ∈ L, l.length ≤ 1000) : (JTx L).length ≤ 20020 := by
  have h1 : (JTx L).length = (tl (JTx L)).length := by simp [tl, Str.length]
  have h2 := joinL_len L
  have h3 := sum_le hw
  have h4 : L.length * 1000 ≤ 20 * 1000 := Nat.mul_le_mul_right _ hl
  rw [h1, JTx_tl]
  omega
theorem strs_txs : ∀ L : List (List Nat), strsD (txs L) = some (L.map tx)
  | [] => rfl
  | l :: L => by
    have := strs_txs L
    unfold txs at this ⊢
    simp only [List.map_cons, strsD, this]
    rfl
theorem join_nl (b : Bool) {L : List (List Nat)} (hl : L.length ≤ 20) (hw : ∀ l ∈ L, l.length ≤ 1000) : oJoin (tx [10]) (seqD b (txs L)) = some (.str (JTx L)) := by
  have h : joinD (tx [10]) (txs L) = some (.str (JTx L)) := by
    unfold joinD
    rw [strs_txs]
    dsimp only
    have h3 := sum_le hw
    have e : ((L.map tx).map (·.length)) = L.map List.length := by
      rw [List.map_map]
      refine List.map_congr_left fun l _ => ?_
      simp [Str.length]
    have h4 : L.length * 1000 ≤ 20 * 1000 := Nat.mul_le_mul_right _ hl
    rw [e, List.length_map]
    have h5 : (tx [10]).length = 1 := rfl
    rw [h5, if_pos (by omega)]
    rfl
  cases b <;> exact h
theorem split_nl {L : List (List Nat)} (hne : L ≠ []) (h10 : ∀ l ∈ L, 10 ∉ l) (hl : L.length ≤ 20) (hw : ∀ l ∈ L, l.length ≤ 1000) : oSplit (JTx L) (.str (tx [10])) = some (.lst (txs L)) := by
  have h1 := JTx_len hl hw
  show (if 0 < (tx [10]).length ∧ (JTx L).length + 2 ≤ 16777216 then some (D.lst ((Txt.split (JTx L) (tx [10])).map D.str)) else none) = _
  rw [if_pos ⟨by decide, by omega⟩]
  have h2 : Txt.split (JTx L) (tx [10]) = L.map tx := split_join (s := 10) (S := []) (tlx [10]) (by simp) (fun e => hne (List.map_eq_nil_iff.mp e)) fun p hp => by
    obtain ⟨l, hl, rfl⟩ := List.mem_map.mp hp
    rw [tlx]
    exact h10 l hl
  rw [h2, List.map_map]
  rfl
/-! ### a line -/
theorem all_bl {α : Type} (b : α → Bool) (l : List α) : oAll [.lst (l.map fun a => D.bl (b a))] = some (.bl (l.all b)) := by
  have h : ∀ l : List α, blsD (l.map fun a => D.bl (b a)) = some (l.map b) := fun l => by
    induction l with
    | nil => rfl
    | cons a l ih => simp [blsD, ih]
  show Option.map (fun bs => D.bl (bs.all id)) (blsD _) = _
  rw [h]
  simp
theorem is_line_eval {l : List Nat} (hl : l.length ≤ 1000) : f_is_line cs [.str (tx l)] = some (.ok (.bl (l.all okc))) := by
  have lc := lc_of_comp (mi := mItA (mVar 0)) (tg := .one 1) (tt := mYes) (me := mOrV (m2 (mVar 1) (mC (.str "-")) oEq) (mCall (pureF (f_is_sign cs)) (mCons (mVar 1) (ret (some []))))) (vs := [1]) (n := 0) (n1 := 0) (ds := [some (.str (tx l)), none]) (as := l.map fun c => D.str (tx [c])) (by simp)
    (compL_map (fun c => D.str (tx [c])) (fun c => D.bl (okc c)) l fun c _ => ⟨[some (.str (tx l)), some (.str (tx [c]))], rfl, by
      unfold okc
      by_cases h : c = 45
      · simp [sGap, tx_inj, h]
      · simp [sGap, tx_inj, h, is_sign_eval]⟩) (by rw [List.length_map]; omega)
  unfold f_is_line
  apply fn0_of
  have e : m_is_line cs 0 (startD 2 [.str (tx l)]) = some (.rt (.bl (l.all okc)), 0, [some (.str (tx l)), none]) := by
    unfold m_is_line
    exact ret_of (cb_ok (cons_ok lc nil_ok) (all_bl okc l))
  rw [e]; rfl
end K67

namespace K67
open PySem L2 PyProof.Rows GW TL
variable {cs : Nat → Addr} {T : Nat → Nat → Nat} {R C : Nat}
/-! ### a block read -/
def badR (L : List (List Nat)) (i : Nat) : Prop := (L.getD i []).length ≠ (L.getD 0 []).length ∨ (L.getD i []).all okc = false
structure Txs (L : List (List Nat)) : Prop where
  ne : L ≠ []
  nl : ∀ l ∈ L, 10 ∉ l
  len : L.length ≤ 20
  wide : ∀ l ∈ L, l.length ≤ 1000
theorem gd {L : List (List Nat)} {i : Nat} {l : List Nat} (h : L[i]? = some l) : L.getD i [] = l := by rw [List.getD_eq_getElem?_getD, h]; rfl
theorem line_turn {L : List (List Nat)} (X : Txs L) {t x2 x3 : Option D} {i : Nat} {l : List Nat} (hi : L[i]? = some l) :
    (¬ badR L i → b_read_block_1 cs 0 [t, some (.lst (txs L)), some (.int (i : Nat)), some (.str (tx l))] = some (.nx, 0, [t, some (.lst (txs L)), some (.int (i : Nat)), some (.str (tx l))])) ∧
    (badR L i → b_read_block_1 cs 0 [t, some (.lst (txs L)), some (.int (i : Nat)), some (.str (tx l))] = some (.ex 11 [("line", (i : Int))], 0, [t, some (.lst (txs L)), some (.int (i : Nat)), some (.str (tx l))])) := by
  have hz : L[0]? = some (L.getD 0 []) := by
    have := (List.getElem?_eq_some_iff.mp hi).1
    rw [List.getD_eq_getElem?_getD, List.getElem?_eq_getElem (by omega)]; rfl
  have hw0 := X.wide _ (List.mem_of_getElem? hz)
  have hwl := X.wide _ (List.mem_of_getElem? hi)
  unfold badR
  rw [gd hi]
  generalize L.getD 0 [] = z at *
  have l0 : oIx (.lst (txs L)) (.int 0) = some (.str (tx z)) := by
    have : (txs L)[0]? = some (D.str (tx z)) := by
      unfold txs
      rw [List.getElem?_map, hz]; rfl
    exact (atI_of (l := txs L) (i := 0) (by omega)).trans this
  have len0 : oLen [.str (tx z)] = some (.int (z.length : Int)) := ov_lenS (by omega)
  have lenl : oLen [.str (tx l)] = some (.int (l.length : Int)) := ov_lenS (by omega)
  have hil := is_line_eval (cs := cs) (l := l) hwl
  constructor
  · intro h
    have h1 : l.length = z.length := Classical.byContradiction fun q => h (.inl q)
    have h2 : l.all okc = true := by
      cases q : l.all okc with
      | true => rfl
      | false => exact absurd (.inr q) h
    rw [h2] at hil
    unfold b_read_block_1
    simp [l0, len0, lenl, h1, hil, -ov_ixL]
  · intro h
    by_cases h1 : l.length = z.length
    · have h2 := h.resolve_left fun q => q h1
      rw [h2] at hil
      unfold b_read_block_1
      simp [l0, len0, lenl, h1, hil, -ov_ixL]
    · have h3 : ¬ (l.length : Int) = (z.length : Int) := by omega
      unfold b_read_block_1
      simp [l0, len0, lenl, h1, h3, -ov_ixL]
theorem read_bad {L : List (List Nat)} (X : Txs L) {r : Nat} (hr : r < L.length) (hb : badR L r) (hmin : ∀ j, j < r → ¬ badR L j) : f_read_block cs [.str (JTx L)] = some (.ex 11 [("line", (r : Int))]) := by
  unfold f_read_block
  apply fn0_ex
  let st : Option D → Option D → DS := fun x2 x3 => [some (.str (JTx L)), some (.lst (txs L)), x2, x3]
  obtain ⟨ds', h1⟩ := forL_upto (tg := .tup [2, 3]) (body := b_read_block_1 cs) (as := enD (txs L)) (n := 0) (fl := .ex 11 [("line", (r : Int))]) (.inr ⟨_, _, rfl⟩) r (by rw [en_len]; unfold txs; rw [List.length_map]; exact hr)
    (fun _ ds => ∃ x2 x3, ds = st x2 x3)
    (fun i d ds hi hd ⟨x2, x3, he⟩ => by
      subst he
      obtain ⟨x, hx, rfl⟩ := en_get hd
      obtain ⟨l, hl, rfl⟩ := txs_get hx
      exact ⟨st (some (.int (i : Nat))) (some (.str (tx l))), _, rfl, (line_turn (x2 := x2) (x3 := x3) X hl).1 (hmin i hi), _, _, rfl⟩)
    (fun d ds hd ⟨x2, x3, he⟩ => by
      subst he
      obtain ⟨x, hx, rfl⟩ := en_get hd
      obtain ⟨l, hl, rfl⟩ := txs_get hx
      exact ⟨st (some (.int (r : Nat))) (some (.str (tx l))), _, rfl, (line_turn (x2 := x2) (x3 := x3) X hl).2 hb⟩) (ds := st none none) ⟨none, none, rfl⟩
  have hsp := split_nl X.ne X.nl X.len X.wide
  have e : m_read_block cs 0 (startD 4 [.str (JTx L)]) = some (.ex 11 [("line", (r : Int))], 0, ds') := by
    unfold m_read_block
    refine seq_nx (n1 := 0) (ds1 := st none none) ((set_of (mm1_ok (var_ok rfl) (n1 := 0) (y := .str (tx [10])) ?_ hsp)).trans rfl) (seq_ex (for_of (n1 := 0) (as := enD (txs L)) (by simp [mEnum, oEnum, enD, st]) h1))
    simp [sNl]
  rw [e]; rfl
theorem read_good {L : List (List Nat)} (X : Txs L) (h : ∀ j, j < L.length → ¬ badR L j) {r : Option (Ot D)} (hb : f_Block_init cs [.lst (txs L)] = r) (hr : (∃ d, r = some (.ok d)) ∨ ∃ c fs, r = some (.ex c fs)) : f_read_block cs [.str (JTx L)] = r := by
  let st : Option D → Option D → DS := fun x2 x3 => [some (.str (JTx L)), some (.lst (txs L)), x2, x3]
  obtain ⟨n', ds', h1, rfl, x2, x3, rfl⟩ := forL_inv (tg := .tup [2, 3]) (body := b_read_block_1 cs) (as := enD (txs L)) (n := 0) (ds := st none none)
    (fun _ n ds => n = 0 ∧ ∃ x2 x3, ds = st x2 x3)
    (fun i d n ds hd ⟨hn, x2, x3, he⟩ => by
      subst hn he
      obtain ⟨x, hx, rfl⟩ := en_get hd
      obtain ⟨l, hl, rfl⟩ := txs_get hx
      exact ⟨st (some (.int (i : Nat))) (some (.str (tx l))), rfl, 0, _, (line_turn (x2 := x2) (x3 := x3) X hl).1 (h i (List.getElem?_eq_some_iff.mp hl).1), rfl, _, _, rfl⟩) ⟨rfl, none, none, rfl⟩
  have hsp := split_nl X.ne X.nl X.len X.wide
  have pre : ∀ rest r', rest 0 (st x2 x3) = r' → sSeq (sSet 1 (mM1 (mVar 0) (mC (.str "\n")) oSplit)) (sSeq (sFor (mEnum (mCons (mVar 1) (ret (some [])))) (.tup [2, 3]) (b_read_block_1 cs)) rest) 0 (startD 4 [.str (JTx L)]) = r' := fun rest r' q => by
    refine seq_nx (n1 := 0) (ds1 := st none none) ((set_of (mm1_ok (var_ok rfl) (n1 := 0) (y := .str (tx [10])) ?_ hsp)).trans rfl) (seq_nx (for_of (n1 := 0) (as := enD (txs L)) (by simp [mEnum, oEnum, enD, st]) h1) q)
    simp [sNl]
  rcases hr with ⟨d, rfl⟩ | ⟨c, fs, rfl⟩
  · unfold f_read_block
    apply fn0_of
    have e : m_read_block cs 0 (startD 4 [.str (JTx L)]) = some (.rt d, 0, st x2 x3) := by
      unfold m_read_block
      exact pre _ _ (ret_of (call_ok (cons_ok (var_ok rfl) nil_ok) hb))
    rw [e]; rfl
  · unfold f_read_block
    apply fn0_ex
    have e : m_read_block cs 0 (startD 4 [.str (JTx L)]) = some (.ex c fs, 0, st x2 x3) := by
      unfold m_read_block
      refine pre _ _ ?_
      simp [st, hb]
    rw [e]; rfl
/-! ### told -/
def told2 (x : Str) (d : D) : D := .tup [.str x, d]
noncomputable def readF (cs : Nat → Addr) (b : Bool) : List D → Option (Ot D) := if b then f_read_laying cs else f_read_block cs
theorem told_ok {b : Bool} {t d : D} (h : readF cs b [t] = some (.ok d)) : f__law_told cs [t, .bl b] = some (.ok (told2 "read" d)) := by
  let st : Option D → DS := fun x => [some t, some (.bl b), x, none]
  have hb : b__law_told_1 cs 0 (st none) = some (.nx, 0, st (some (told2 "read" d))) := by
    unfold b__law_told_1
    cases b with
    | true =>
      refine if_t (n1 := 0) (by simp [st]) ((set_of (tup_ok (cons_ok rfl (cons_ok (call_ok (cons_ok (var_ok rfl) nil_ok) h) nil_ok)) (by simp))).trans rfl)
    | false =>
      refine if_f (n1 := 0) (by simp [st]) ((set_of (tup_ok (cons_ok rfl (cons_ok (call_ok (cons_ok (var_ok rfl) nil_ok) h) nil_ok)) (by simp))).trans rfl)
  have s1 : Str.ofString "read" ≠ Str.ofString "no" := by decide +kernel
  unfold f__law_told
  apply fn0_of
  have e : m__law_told cs 0 (startD 4 [t, .bl b]) = some (.rt (told2 "read" d), 0, st (some (told2 "read" d))) := by
    unfold m__law_told
    refine seq_nx (n1 := 0) (ds1 := st (some (told2 "read" d))) ?_ (seq_nx (n1 := 0) (ds1 := st (some (told2 "read" d))) ?_ (by simp [st]))
    · unfold sTry
      have : b__law_told_1 cs 0 (startD 4 [t, .bl b]) = some (.nx, 0, st (some (told2 "read" d))) := hb
      rw [this]
    · simp [st, told2, atI, ixN, s1]
  rw [e]; rfl
theorem told_ex {b : Bool} {t : D} {c : Nat} {fs : List (Str × Int)} {d : D} (h : readF cs b [t] = some (.ex c fs)) (hc : (c = 11 ∧ ∃ k : Int, fs = [(Str.ofString "line", k)] ∧ d = told2 "text" (.int k)) ∨ (c = 5 ∧ fs = [] ∧ d = told2 "block" (.int 0))) : f__law_told cs [t, .bl b] = some (.ok d) := by
  let st : Option D → DS := fun x => [some t, some (.bl b), x, none]
  have hb : b__law_told_1 cs 0 (st none) = some (.ex c fs, 0, st none) := by
    unfold b__law_told_1
    cases b with
    | true =>
      have h : f_read_laying cs [t] = _ := h
      refine if_t (n1 := 0) (by simp [st]) ?_
      simp [st, h]
    | false =>
      have h : f_read_block cs [t] = _ := h
      refine if_f (n1 := 0) (by simp [st]) ?_
      simp [st, h]
  unfold f__law_told
  apply fn0_of
  have e : m__law_told cs 0 (startD 4 [t, .bl b]) = some (.rt d, 0, st (some (told2 "no" (.err c fs)))) := by
    unfold m__law_told
    refine seq_nx (n1 := 0) (ds1 := st (some (told2 "no" (.err c fs)))) ((try_ex hb).trans ?_) ?_
    · rcases hc with ⟨rfl, k, rfl, rfl⟩ | ⟨rfl, rfl, rfl⟩ <;> simp [exs, esub, st, told2]
    · rcases hc with ⟨rfl, k, rfl, rfl⟩ | ⟨rfl, rfl, rfl⟩
      · have lk : List.lookup (Str.ofString "line") [(Str.ofString "line", k)] = some k := rfl
        refine seq_rt ?_
        simp [exs, esub, st, told2, atI, ixN, fldN, lk]
      · refine seq_rt ?_
        simp [exs, esub, st, told2, atI, ixN]
  rw [e]; rfl
end K67

namespace K67
open PySem L2 PyProof.Rows GW TL
variable {cs : Nat → Addr} {T : Nat → Nat → Nat} {R C : Nat}
theorem txs_ixL {L : List (List Nat)} {i : Nat} (h : i < L.length) : oIx (.lst (txs L)) (.int (i : Int)) = some (.str (tx (L.getD i []))) := by
  have e : (txs L)[i]? = some (.str (tx (L.getD i []))) := by
    unfold txs
    rw [List.getElem?_map, List.getElem?_eq_getElem h, List.getD_eq_getElem?_getD, List.getElem?_eq_getElem h]; rfl
  show atI (txs L) (i : Int) = _
  rw [GW.atI_nat, e]
theorem set_txs {L : List (List Nat)} {r : Nat} {l : List Nat} : (txs L).set r (.str (tx l)) = txs (L.set r l) := by
  unfold txs
  rw [List.map_set]
theorem txs_len {L : List (List Nat)} : (txs L).length = L.length := by unfold txs; simp
/-! ### what the lines are like -/
structure Ch (L : List (List Nat)) (R : Nat) (len : Nat → Nat) (ok : Nat → Bool) : Prop where
  n : L.length = R
  at_ : ∀ i, i < R → (L.getD i []).length = len i ∧ (L.getD i []).all okc = ok i
theorem Ch.bad {L : List (List Nat)} {len : Nat → Nat} {ok : Nat → Bool} (h : Ch L R len ok) {i : Nat} (hi : i < R) : badR L i ↔ len i ≠ len 0 ∨ ok i = false := by
  unfold badR
  rw [(h.at_ i hi).1, (h.at_ i hi).2, (h.at_ 0 (by omega)).1]
theorem Ch.read {L : List (List Nat)} {len : Nat → Nat} {ok : Nat → Bool} (h : Ch L R len ok) (X : Txs L) {r : Nat} (hr : r < R) (hb : len r ≠ len 0 ∨ ok r = false) (hmin : ∀ j, j < r → len j = len 0 ∧ ok j = true) : f_read_block cs [.str (JTx L)] = some (.ex 11 [("line", (r : Int))]) :=
  read_bad X (by rw [h.n]; exact hr) ((h.bad hr).mpr hb) fun j hj q => by
    rcases (h.bad (by omega)).mp q with z | z
    · exact z (hmin j hj).1
    · rw [(hmin j hj).2] at z; cases z
theorem Ch.set {L : List (List Nat)} {len : Nat → Nat} {ok : Nat → Bool} (h : Ch L R len ok) {k : Nat} (hk : k < R) (l : List Nat) : Ch (L.set k l) R (fun i => if i = k then l.length else len i) (fun i => if i = k then l.all okc else ok i) := by
  refine ⟨by rw [List.length_set, h.n], fun i hi => ?_⟩
  by_cases e : i = k
  · subst e
    have : (L.set i l).getD i [] = l := by
      rw [List.getD_eq_getElem?_getD, List.getElem?_set_self (by rw [h.n]; exact hi)]; rfl
    rw [this, if_pos rfl, if_pos rfl]
    exact ⟨rfl, rfl⟩
  · have : (L.set k l).getD i [] = L.getD i [] := by
      rw [List.getD_eq_getElem?_getD, List.getElem?_set_ne (fun q => e q.symm), ← List.getD_eq_getElem?_getD]
    rw [this, if_neg e, if_neg e]
    exact h.at_ i hi
theorem Txs.set {L : List (List Nat)} (h : Txs L) {k : Nat} {l : List Nat} (h10 : 10 ∉ l) (hl : l.length ≤ 1000) : Txs (L.set k l) := by
  refine ⟨fun e => h.ne ?_, fun x hx => ?_, by rw [List.length_set]; exact h.len, fun x hx => ?_⟩
  · have := congrArg List.length e
    rw [List.length_set] at this
    exact List.length_eq_zero_iff.mp (by simpa using this)
  · rcases List.mem_or_eq_of_mem_set hx with q | rfl
    · exact h.nl x q
    · exact h10
  · rcases List.mem_or_eq_of_mem_set hx with q | rfl
    · exact h.wide x q
    · exact hl
theorem rowsN_len : (rowsN T R C).length = R := by unfold rowsN; simp
theorem rowsN_getD {i : Nat} (hi : i < R) : (rowsN T R C).getD i [] = rowL T C i := by
  unfold rowsN
  rw [List.getD_eq_getElem?_getD, List.getElem?_map, List.getElem?_range hi]; rfl
theorem okc_not10 {c : Nat} (h : okc c = true) : c ≠ 10 := fun e => by rw [e] at h; revert h; decide
theorem row_okc (F : Fits T R C) {i : Nat} (hi : i < R) : (rowL T C i).all okc = true := by
  rw [List.all_eq_true]
  intro c hc
  obtain ⟨k, hk, rfl⟩ := List.mem_map.mp hc
  have := F.things i k hi (List.mem_range.mp hk)
  unfold okc
  rcases this with h | h
  · simp [h]
  · simp [h]
theorem rows_ch (F : Fits T R C) : Ch (rowsN T R C) R (fun _ => C) (fun _ => true) := ⟨rowsN_len, fun i hi => by rw [rowsN_getD hi]; exact ⟨row_len, row_okc F hi⟩⟩
theorem rows_X (F : Fits T R C) (hR : R ≤ 20) : Txs (rowsN T R C) := by
  refine ⟨fun e => ?_, fun l hl => ?_, by rw [rowsN_len]; exact hR, fun l hl => ?_⟩
  · have := congrArg List.length e
    rw [rowsN_len] at this
    have := F.hR
    simp_all
  · obtain ⟨r, hr, rfl⟩ := rowsN_in hl
    intro h10
    exact okc_not10 (List.all_eq_true.mp (row_okc F hr) 10 h10) rfl
  · obtain ⟨r, hr, rfl⟩ := rowsN_in hl
    rw [row_len]
    have := F.hC
    omega
theorem read_rows (B : OKB T R C) (hR : R ≤ 20) : f_read_block cs [.str (JTx (rowsN T R C))] = some (.ok (blkD cs T R C)) := by
  have F : Fits T R C := ⟨B.hR, B.hR8, B.hC, B.things⟩
  refine read_good (rows_X F hR) (fun j hj q => ?_) (by rw [← rows_txs]; exact block_eval B) (.inl ⟨_, rfl⟩)
  rw [rowsN_len] at hj
  rcases ((rows_ch F).bad hj).mp q with z | z
  · exact z rfl
  · cases z
theorem gap_row {r k : Nat} (hk : k ≤ C) : (rowL T C r).take k ++ [45] ++ (rowL T C r).drop k = rowL (fun r i => if i < k then T r i else if i = k then 45 else T r (i - 1)) (C + 1) r := by
  have ht : ((rowL T C r).take k).length = k := by rw [List.length_take, row_len]; omega
  apply List.ext_getElem?
  intro i
  rw [List.append_assoc]
  by_cases h1 : i < k
  · rw [List.getElem?_append_left (by omega), List.getElem?_take_of_lt h1, row_get (by omega), row_get (by omega)]
    rw [if_pos h1]
  · rw [List.getElem?_append_right (by omega), ht]
    by_cases h2 : i = k
    · subst h2
      rw [Nat.sub_self, row_get (by omega)]
      rw [if_neg h1, if_pos rfl]; rfl
    · obtain ⟨j, rfl⟩ : ∃ j, i = k + (j + 1) := ⟨i - k - 1, by omega⟩
      rw [show k + (j + 1) - k = j + 1 by omega]
      show ((rowL T C r).drop k)[j]? = _
      rw [List.getElem?_drop]
      by_cases h3 : k + j < C
      · rw [row_get h3, row_get (by omega)]
        rw [if_neg h1, if_neg h2]
        congr 2
      · rw [List.getElem?_eq_none (by rw [row_len]; omega), List.getElem?_eq_none (by rw [row_len]; omega)]
def gapT (T : Nat → Nat → Nat) (k : Nat) : Nat → Nat → Nat := fun r i => if i < k then T r i else if i = k then 45 else T r (i - 1)
theorem gap_fits (F : Fits T R C) (hC : C < 100) {k : Nat} (hk : k ≤ C) : Fits (gapT T k) R (C + 1) := ⟨F.hR, F.hR8, by omega, fun r i hr hi => by
  unfold gapT
  split
  · exact F.things r i hr (by omega)
  · split
    · exact .inl rfl
    · exact F.things r (i - 1) hr (by omega)⟩
theorem read_gap (F : Fits T R C) (hR : R ≤ 20) (hC : C < 100) {k : Nat} (hk : k ≤ C) : f_read_block cs [.str (JTx (rowsN (gapT T k) R (C + 1)))] = some (.ex 5 []) := by
  have G := gap_fits F hC hk
  refine read_good (rows_X G hR) (fun j hj q => ?_) (by
    rw [← rows_txs]
    refine block_gap (k := k) G (by omega) ?_
    cases h : has (gapT T k) R k with
    | false => rfl
    | true =>
      obtain ⟨r, _, h2⟩ := has_iff.mp h
      exact absurd (by unfold gapT; rw [if_neg (by omega), if_pos rfl]) h2) (.inr ⟨_, _, rfl⟩)
  rw [rowsN_len] at hj
  rcases ((rows_ch G).bad hj).mp q with z | z
  · exact z rfl
  · cases z
end K67

namespace K67
open PySem L2 PyProof.Rows GW TL
variable {cs : Nat → Addr} {T : Nat → Nat → Nat} {R C : Nat}
theorem slS_to {l : List Nat} {k : Nat} (hl : l.length ≤ 1000) (hk : k ≤ l.length) : oSl none (some (k : Int)) (.str (tx l)) = some (.str (tx (l.take k))) := ov_slTo (by omega) hk
theorem slS_from {l : List Nat} {k : Nat} (hl : l.length ≤ 1000) (hk : k ≤ l.length) : oSl (some (k : Int)) none (.str (tx l)) = some (.str (tx (l.drop k))) := ov_slFrom (by omega) hk
theorem sQ : Str.ofString "\"" = tx [34] := by decide +kernel
theorem sA : Str.ofString "A" = tx [65] := by decide +kernel
structure Sp (cs : Nat → Addr) (R : Nat) (L : List (List Nat)) (due : D) : Prop where
  X : Txs L
  n : L.length = R
  due : (∃ k : Nat, due = told2 "text" (.int (k : Int)) ∧ f_read_block cs [.str (JTx L)] = some (.ex 11 [("line", (k : Int))])) ∨ (due = told2 "block" (.int 0) ∧ f_read_block cs [.str (JTx L)] = some (.ex 5 []))
theorem spoilt_eval {ns : List Int} {n : Int} (F : Fits T R C) (hR : R ≤ 8) (hC : C ≤ 20) (h0 : 0 ≤ n) (h1 : n ≤ 1000000) : ∃ L due, f__law_spoilt cs n [scD ns, .non, .lst (rowsL T R C)] = some (.ok (.tup [.lst (txs L), due]), n + 1) ∧ Sp cs R L due := by
  have hR0 := F.hR
  obtain ⟨v, hv, v0, v1⟩ := next_eval (cs := cs) (ns := ns) h0 h1
  have dk : ∀ k : Int, 0 < k → k < 1000000 → divOk k = true := fun k a b => divL ⟨by omega, by omega⟩
  have d6 := dk 6 (by decide) (by decide)
  have d30 := dk 30 (by decide) (by decide)
  have d400 := dk 400 (by decide) (by decide)
  have d2 := dk 2 (by decide) (by decide)
  have dR : divOk (R : Int) = true := divL ⟨by omega, by omega⟩
  have dC : divOk (C : Int) = true ∨ C = 0 := by
    by_cases h : C = 0
    · exact .inr h
    · exact .inl (divL ⟨by omega, by omega⟩)
  have dC1 : divOk ((C : Int) + 1) = true := divL ⟨by omega, by omega⟩
  have emR : ∀ x : Int, ∃ r : Nat, r < R ∧ x % (R : Int) = (r : Int) := fun x => by
    have a1 := Int.emod_nonneg x (show (R : Int) ≠ 0 by omega)
    have a2 := Int.emod_lt_of_pos x (show (0 : Int) < R by omega)
    exact ⟨(x % (R : Int)).toNat, by omega, by omega⟩
  obtain ⟨k, hk, ek⟩ := emR (v / 6)
  obtain ⟨j, hj, ej⟩ := emR (v / 400)
  rw [rows_txs]
  have X0 := rows_X F (by omega)
  have Ch0 := rows_ch F
  have n0 : (rowsN T R C).length = R := rowsN_len
  have wid : ∀ i, i < R → ((rowsN T R C).getD i []).length = C := fun i hi => (Ch0.at_ i hi).1
  have oks : ∀ i, i < R → ((rowsN T R C).getD i []).all okc = true := fun i hi => (Ch0.at_ i hi).2
  have lenR : oLen [.lst (txs (rowsN T R C))] = some (.int (R : Int)) := by
    show some (D.int ((txs (rowsN T R C)).length : Int)) = _
    rw [txs_len, n0]
  have ix : ∀ i : Nat, i < R → oIx (.lst (txs (rowsN T R C))) (.int (i : Int)) = some (.str (tx ((rowsN T R C).getD i []))) := fun i hi => txs_ixL (by rw [n0]; exact hi)
  have i0 : oIx (.lst (txs (rowsN T R C))) (.int 0) = some (.str (tx ((rowsN T R C).getD 0 []))) := ix 0 hR0
  have lenS : ∀ i, i < R → oLen [.str (tx ((rowsN T R C).getD i []))] = some (.int (C : Int)) := fun i hi => by rw [ov_lenS (by rw [wid i hi]; omega), wid i hi]
  have len0 := lenS 0 hR0
  have ixk := ix k hk
  have n10 : ∀ i, i < R → 10 ∉ (rowsN T R C).getD i [] := fun i hi q => okc_not10 (List.all_eq_true.mp (oks i hi) 10 q) rfl
  generalize hN : rowsN T R C = N at *
  have wk := wid k hk
  have okk := oks k hk
  have tenk := n10 k hk
  obtain ⟨z0, hz0⟩ : ∃ z, N.getD 0 [] = z := ⟨_, rfl⟩
  obtain ⟨row, hrow⟩ : ∃ z, N.getD k [] = z := ⟨_, rfl⟩
  rw [hz0] at i0 len0
  rw [hrow] at ixk wk okk tenk
  let st : Option D → Option D → Option D → Option D → Option D → Option D → Option D → DS := fun x3 x4 x5 x6 x7 x8 x9 => [some (scD ns), none, some (.lst (txs N)), x3, x4, x5, x6, x7, x8, x9]
  let s3 := some (D.int v)
  let s4 := some (D.int (k : Int))
  let s5 : List (List Nat) → Option D := fun L => some (D.lst (txs L))
  suffices h : ∃ L due ds', m__law_spoilt cs n (st none none none none none none none) = some (.rt (.tup [.lst (txs L), due]), n + 1, ds') ∧ Sp cs R L due by
    obtain ⟨L, due, ds', e, hb⟩ := h
    refine ⟨L, due, ?_, hb⟩
    unfold f__law_spoilt fnC
    have e0 : (startD 10 [scD ns, .non, .lst (txs N)]).set 1 none = st none none none none none none none := rfl
    rw [e0, e]
    rfl
  have p1 : ∀ rest r', rest (n + 1) (st s3 s4 (s5 N) none none none none) = r' → (sSeq (sSet 3 (mCall (f__law_next cs) (mCons (mVar 0) (mCons (mC .non) (ret (some []))))))
  (sSeq (sSet 4 (m2 (m2 (mVar 3) (mC (.int 6)) oDiv) (mCB (mCons (mVar 2) (ret (some []))) oLen) oMod))
  (sSeq (sSet 5 (mCB (mCons (mVar 2) (ret (some []))) oList)) rest))) n (st none none none none none none none) = r' := fun rest r' h => by
    have hl : oList [.lst (txs N)] = some (.lst (txs N)) := rfl
    refine seq_nx (n1 := n + 1) (ds1 := st s3 none none none none none none) (by simp [st, s3, hv]) (seq_nx (n1 := n + 1) (ds1 := st s3 s4 none none none none none) (by simp [st, s3, s4, d6, dR, ek, lenR, hR0]) (seq_nx (n1 := n + 1) (ds1 := st s3 s4 (s5 N) none none none none) (by simp [st, s5, hl]) h))
  have setK : ∀ (m : GW.M) (l : List Nat) (L : List (List Nat)) (i : Nat) (mj : GW.M) (x6 x7 x8 x9 : Option D), i < L.length → m (n + 1) (st s3 s4 (s5 L) x6 x7 x8 x9) = some (.ok (.str (tx l)), n + 1) → mj (n + 1) (st s3 s4 (s5 L) x6 x7 x8 x9) = some (.ok (.int (i : Int)), n + 1) →
      sSetI 5 m (mPN 5) mj (n + 1) (st s3 s4 (s5 L) x6 x7 x8 x9) = some (.nx, n + 1, st s3 s4 (s5 (L.set i l)) x6 x7 x8 x9) := fun m l L i mj x6 x7 x8 x9 hi hm hj => by
    refine (setI1_of hm rfl hj (by rw [txs_len]; exact hi)).trans ?_
    rw [set_txs]
    rfl
  by_cases cA : v % 6 < 3 ∧ 0 < C
  · -- a strange thing
    obtain ⟨spot, hsp, esp⟩ : ∃ s : Nat, s < C ∧ v / 30 % (C : Int) = (s : Int) := by
      have a1 := Int.emod_nonneg (v / 30) (show (C : Int) ≠ 0 by omega)
      have a2 := Int.emod_lt_of_pos (v / 30) (show (0 : Int) < C by omega)
      exact ⟨(v / 30 % (C : Int)).toNat, by omega, by omega⟩
    have dC' : divOk (C : Int) = true := dC.resolve_right (by omega)
    let l1 := row.take spot ++ [34] ++ row.drop (spot + 1)
    have l1len : l1.length = C := by
      show (row.take spot ++ [34] ++ row.drop (spot + 1)).length = C
      simp only [List.length_append, List.length_take, List.length_drop, List.length_singleton]
      omega
    have l1bad : l1.all okc = false := by
      cases q : l1.all okc with
      | false => rfl
      | true =>
        have := List.all_eq_true.mp q 34 (by show 34 ∈ row.take spot ++ [34] ++ row.drop (spot + 1); simp)
        revert this; decide
    have l1ten : 10 ∉ l1 := fun q => by
      have q : 10 ∈ row.take spot ++ [34] ++ row.drop (spot + 1) := q
      simp only [List.mem_append, List.mem_singleton] at q
      rcases q with (q | q) | q
      · exact tenk (List.mem_of_mem_take q)
      · omega
      · exact tenk (List.mem_of_mem_drop q)
    let N1 := N.set k l1
    have N1len : N1.length = R := by show (N.set k l1).length = R; rw [List.length_set, n0]
    have X1 : Txs N1 := X0.set l1ten (by omega)
    have Ch1 := Ch0.set hk l1
    have Ch1' : Ch N1 R (fun _ => C) (fun i => if i = k then false else true) := ⟨Ch1.n, fun i hi => by
      have := Ch1.at_ i hi
      simp only [l1len, l1bad, ite_self] at this
      exact this⟩
    let s6 := some (D.int (spot : Int))
    let s8 := some (D.int (j : Int))
    have t1 := slS_to (l := row) (k := spot) (by omega) (by omega)
    have t2 := slS_from (l := row) (k := spot + 1) (by omega) (by omega)
    push_cast at t2
    have a1 : oAdd (.str (tx (row.take spot))) (.str (tx [34])) = some (.str (tx (row.take spot ++ [34]))) := ov_addS (by simp; omega)
    have a2 : oAdd (.str (tx (row.take spot ++ [34]))) (.str (tx (row.drop (spot + 1)))) = some (.str (tx l1)) := ov_addS (by simp; omega)
    have hC' : (0 : Int) < (C : Int) := by omega
    have go : ∀ (tail : MS) (d : D) (ds' : DS) , tail (n + 1) (st s3 s4 (s5 N1) s6 s4 s8 none) = some (.rt d, n + 1, ds') →
        (sSeq (sSet 6 (m2 (m2 (mVar 3) (mC (.int 30)) oDiv) (mCB (mCons (m2 (mVar 2) (mC (.int 0)) oIx) (ret (some []))) oLen) oMod))
  (sSeq (sSetI 5 (m2 (m2 (mSl (m2 (mVar 2) (mVar 4) oIx) mNoPart (mPart (mVar 6))) (mC (.str "\"")) oAdd) (mSl (m2 (mVar 2) (mVar 4) oIx) (mPart (m2 (mVar 6) (mC (.int 1)) oAdd)) mNoPart) oAdd) (mPN 5) (mVar 4))
  (sSeq (sSet 7 (mVar 4))
  (sSeq (sSet 8 (m2 (m2 (mVar 3) (mC (.int 400)) oDiv) (mCB (mCons (mVar 2) (ret (some []))) oLen) oMod)) tail)))) (n + 1) (st s3 s4 (s5 N) none none none none) = some (.rt d, n + 1, ds') := fun tail d ds' ht => by
      refine seq_nx (n1 := n + 1) (ds1 := st s3 s4 (s5 N) s6 none none none) ?_ (seq_nx (n1 := n + 1) (ds1 := st s3 s4 (s5 N1) s6 none none none) (setK _ l1 N k _ s6 none none none (by rw [n0]; exact hk) ?_ rfl) (seq_nx (n1 := n + 1) (ds1 := st s3 s4 (s5 N1) s6 s4 none none) ((set_of (var_ok rfl)).trans rfl) (seq_nx (n1 := n + 1) (ds1 := st s3 s4 (s5 N1) s6 s4 s8 none) ?_ ht)))
      · simp [st, s3, s6, d30, dC', i0, len0, esp, cA.2, -ov_ixL]
      · simp only [ev_m2, ev_mb, ev_sl, ev_part, ev_var, ev_C, ev_noPart]
        simp only [st, s4, s6, List.getElem?_cons_zero, List.getElem?_cons_succ, ev_ret, ev_mb, ixk, sQ]
        simp [t1, t2, a1, a2]
      · simp [st, s3, s8, d400, dR, lenR, ej, hR0]
    have frz : ∀ {m : MS} {ds : DS} {d : D} {ds' : DS}, m (n + 1) ds = some (.rt d, n + 1, ds') → sFrz 5 m (n + 1) ds = some (.rt d, n + 1, ds') := fun h => by
      unfold sFrz
      rw [h]
    have cA' := cA.1
    have hcond : (mAnd (mTest (m2 (m2 (mVar 3) (mC (.int 6)) oMod) (mC (.int 3)) oLt)) (mTest (m2 (mCB (mCons (m2 (mVar 2) (mC (.int 0)) oIx) (ret (some []))) oLen) (mC (.int 0)) oGt))) (n + 1) (st s3 s4 (s5 N) none none none none) = some (.ok true, n + 1) := by
      simp [st, s3, d6, i0, len0, cA', cA.2, -ov_ixL]
    by_cases c1 : v % 6 = 1 ∧ 1 < R
    · -- another line longer, too
      let row2 := N1.getD j []
      have w2 : row2.length = C := (Ch1'.at_ j hj).1
      let L := N1.set j (row2 ++ [65])
      have X2 : Txs L := X1.set (fun q => by
        rw [List.mem_append, List.mem_singleton] at q
        rcases q with q | q
        · have : row2 ∈ N1 := by
            show N1.getD j [] ∈ N1
            rw [List.getD_eq_getElem?_getD, List.getElem?_eq_getElem (by rw [N1len]; exact hj)]
            exact List.getElem_mem _
          exact X1.nl _ this q
        · omega) (by rw [List.length_append, w2]; simp; omega)
      have Ch2 := Ch1'.set hj (row2 ++ [65])
      obtain ⟨r, hr, er, hrk⟩ : ∃ r : Nat, r < R ∧ (if (if (1 : Int) > (j : Int) then (1 : Int) else (j : Int)) < (k : Int) then (if (1 : Int) > (j : Int) then (1 : Int) else (j : Int)) else (k : Int)) = (r : Int) ∧ ((j = 0 ∧ ((k = 0 ∧ r = 0) ∨ (0 < k ∧ r = 1))) ∨ (0 < j ∧ ((k ≤ j ∧ r = k) ∨ (j < k ∧ r = j)))) := by
        by_cases hj0 : j = 0
        · by_cases hk0 : k = 0
          · refine ⟨0, hR0, ?_, .inl ⟨hj0, .inl ⟨hk0, rfl⟩⟩⟩
            rw [if_pos (show (1 : Int) > (j : Int) by omega), if_neg (by omega)]; omega
          · refine ⟨1, c1.2, ?_, .inl ⟨hj0, .inr ⟨by omega, rfl⟩⟩⟩
            rw [if_pos (show (1 : Int) > (j : Int) by omega)]
            split <;> omega
        · rw [if_neg (show ¬ (1 : Int) > (j : Int) by omega)]
          by_cases h : j < k
          · exact ⟨j, hj, by rw [if_pos (by omega)], .inr ⟨by omega, .inr ⟨h, rfl⟩⟩⟩
          · exact ⟨k, hk, by rw [if_neg (by omega)], .inr ⟨by omega, .inl ⟨by omega, rfl⟩⟩⟩
      have a3 : oAdd (.str (tx row2)) (.str (tx [65])) = some (.str (tx (row2 ++ [65]))) := ov_addS (by rw [w2]; simp; omega)
      have ixj : oIx (.lst (txs N1)) (.int (j : Int)) = some (.str (tx row2)) := txs_ixL (by rw [N1len]; exact hj)
      have wL : (row2 ++ [65]).length = C + 1 := by rw [List.length_append, w2]; rfl
      refine ⟨L, told2 "text" (.int (r : Int)), st s3 s4 (s5 L) s6 (some (.int (r : Int))) s8 none, ?_, X2, by show (N1.set j _).length = R; rw [List.length_set, N1len], .inl ⟨r, rfl, Ch2.read X2 hr ?_ ?_⟩⟩
      · unfold m__law_spoilt
        refine p1 _ _ (seq_rt (if_t (n1 := n + 1) hcond (go _ _ _ (seq_nx (n1 := n + 1) (ds1 := st s3 s4 (s5 L) s6 (some (.int (r : Int))) s8 none) (if_t (n1 := n + 1) ?_ (seq_nx (n1 := n + 1) (ds1 := st s3 s4 (s5 L) s6 s4 s8 none) (setK _ (row2 ++ [65]) N1 j _ s6 s4 s8 none (by rw [N1len]; exact hj) ?_ rfl) ((set_of (cb_ok (cons_ok (var_ok rfl) (cons_ok (cb_ok (cons_ok (var_ok rfl) (cons_ok rfl nil_ok)) ov_max2) nil_ok)) ov_min2)).trans ?_))) (frz (seq_nx (n1 := n + 1) (ds1 := st s3 s4 (s5 L) s6 (some (.int (r : Int))) s8 none) (if_f (n1 := n + 1) ?_ rfl) (ret_of (tup_ok (cons_ok (var_ok rfl) (cons_ok (tup_ok (cons_ok rfl (cons_ok (var_ok rfl) nil_ok)) (by simp)) nil_ok)) (by simp)))))))))
        · have : (1 : Int) < (R : Int) := by omega
          simp [st, s3, d6, c1.1, lenR, this, c1.2]
        · refine m2_ok (m2_ok (var_ok rfl) (var_ok rfl) ixj) (n2 := n + 1) (y := .str (tx [65])) ?_ a3
          simp [sA]
        · rw [er]; rfl
        · simp [st, s3, d6, c1.1]
      · rcases hrk with ⟨h, (⟨h2, e⟩ | ⟨h2, e⟩)⟩ | ⟨h, (⟨h2, e⟩ | ⟨h2, e⟩)⟩
        · right
          rw [e, if_pos h.symm]
          have : row2 = l1 := by
            show (N.set k l1).getD j [] = l1
            rw [show j = k by omega, List.getD_eq_getElem?_getD, List.getElem?_set_self (by rw [n0]; exact hk)]; rfl
          rw [this, List.all_append, l1bad]; rfl
        · left
          rw [e, if_neg (by omega), if_pos h.symm, wL]
          omega
        · right
          rw [e]
          by_cases e2 : k = j
          · rw [if_pos e2]
            have : row2 = l1 := by
              show (N.set k l1).getD j [] = l1
              rw [← e2, List.getD_eq_getElem?_getD, List.getElem?_set_self (by rw [n0]; exact hk)]; rfl
            rw [this, List.all_append, l1bad]; rfl
          · rw [if_neg e2, if_pos rfl]
        · left
          rw [e, if_pos rfl, if_neg (by omega), wL]
          omega
      · intro i hi
        rcases hrk with ⟨h, (⟨h2, e⟩ | ⟨h2, e⟩)⟩ | ⟨h, (⟨h2, e⟩ | ⟨h2, e⟩)⟩
        · omega
        · have hi0 : i = 0 := by omega
          subst hi0
          refine ⟨rfl, ?_⟩
          rw [if_pos h.symm]
          have : row2 = N.getD 0 [] := by
            show (N.set k l1).getD j [] = _
            rw [h, List.getD_eq_getElem?_getD, List.getElem?_set_ne (by omega), ← List.getD_eq_getElem?_getD]
          rw [this, List.all_append, oks 0 hR0]
          decide
        · rw [if_neg (by omega), if_neg (by omega), if_neg (by omega), if_neg (by omega)]
          exact ⟨rfl, rfl⟩
        · rw [if_neg (by omega), if_neg (by omega), if_neg (by omega), if_neg (by omega)]
          exact ⟨rfl, rfl⟩
    have sk1 : ∀ a rest r', rest (n + 1) (st s3 s4 (s5 N1) s6 s4 s8 none) = r' → sSeq (sIf (mAnd (mTest (m2 (m2 (mVar 3) (mC (.int 6)) oMod) (mC (.int 1)) oEq)) (mTest (m2 (mCB (mCons (mVar 2) (ret (some []))) oLen) (mC (.int 1)) oGt))) a sNx) rest (n + 1) (st s3 s4 (s5 N1) s6 s4 s8 none) = r' := fun a rest r' h => by
      refine seq_nx (n1 := n + 1) (ds1 := st s3 s4 (s5 N1) s6 s4 s8 none) (if_f (n1 := n + 1) ?_ rfl) h
      by_cases h : v % 6 = 1
      · have h2 : ¬ (1 : Int) < (R : Int) := fun q => c1 ⟨h, by omega⟩
        have h3 : ¬ 1 < R := fun q => c1 ⟨h, q⟩
        simp [st, s3, d6, h, lenR, h2, h3]
      · simp [st, s3, d6, h]
    by_cases c2 : v % 6 = 2
    · -- a gap behind each line
      let L := N1.map fun l => l ++ [45]
      have X2 : Txs L := by
        refine ⟨fun e => X1.ne (List.map_eq_nil_iff.mp e), fun l hl q => ?_, by show (N1.map _).length ≤ 20; rw [List.length_map]; exact X1.len, fun l hl => ?_⟩
        · obtain ⟨l', hl', rfl⟩ := List.mem_map.mp hl
          rw [List.mem_append, List.mem_singleton] at q
          rcases q with q | q
          · exact X1.nl _ hl' q
          · omega
        · obtain ⟨l', hl', rfl⟩ := List.mem_map.mp hl
          obtain ⟨i, hi⟩ := List.getElem?_of_mem hl'
          have hi2 : i < R := by rw [← N1len]; exact (List.getElem?_eq_some_iff.mp hi).1
          have := (Ch1'.at_ i hi2).1
          rw [gd hi] at this
          rw [List.length_append, this]
          simp; omega
      have Ch2 : Ch L R (fun _ => C + 1) (fun i => if i = k then false else true) := ⟨by show (N1.map _).length = R; rw [List.length_map, N1len], fun i hi => by
        have h := Ch1'.at_ i hi
        have e : N1[i]? = some (N1.getD i []) := by
          rw [List.getD_eq_getElem?_getD, List.getElem?_eq_getElem (by rw [N1len]; exact hi)]; rfl
        have : L.getD i [] = N1.getD i [] ++ [45] := by
          show (N1.map fun l => l ++ [45]).getD i [] = _
          rw [List.getD_eq_getElem?_getD, List.getElem?_map, e]; rfl
        rw [this, List.length_append, h.1, List.all_append, h.2]
        refine ⟨rfl, ?_⟩
        have : [45].all okc = true := by decide
        rw [this, Bool.and_true]⟩
      have lc := lc_of_comp (mi := mItA (mVar 5)) (tg := .one 9) (tt := mYes) (me := m2 (mVar 9) (mC (.str "-")) oAdd) (vs := [9]) (n := n + 1) (n1 := n + 1) (ds := st s3 s4 (s5 N1) s6 s4 s8 none) (as := N1.map fun l => D.str (tx l)) (by
          have : itemsD (.lst (txs N1)) = some (N1.map fun l => D.str (tx l)) := rfl
          simp [st, s5, txs])
        (compL_map (fun l => D.str (tx l)) (fun l => D.str (tx (l ++ [45]))) N1 fun l hl => ⟨st s3 s4 (s5 N1) s6 s4 s8 (some (.str (tx l))), rfl, by
          have hw := X1.wide l hl
          have a3 : oAdd (.str (tx l)) (.str (tx [45])) = some (.str (tx (l ++ [45]))) := ov_addS (by simp; omega)
          exact m2_ok (var_ok rfl) (n2 := n + 1) (y := .str (tx [45])) (by simp [sGap]) a3⟩) (by rw [List.length_map]; have := X1.len; omega)
      have lc : mLc (mItA (mVar 5)) (.one 9) mYes (m2 (mVar 9) (mC (.str "-")) oAdd) [9] (n + 1) (st s3 s4 (s5 N1) s6 s4 s8 none) = some (.ok (.lst (txs L)), n + 1) := by
        rw [lc]
        show _ = some (Ot.ok (D.lst ((N1.map fun l => l ++ [45]).map fun l => D.str (tx l))), n + 1)
        rw [List.map_map]; rfl
      refine ⟨L, told2 "text" (.int (k : Int)), st s3 s4 (s5 L) s6 s4 s8 none, ?_, X2, Ch2.n, .inl ⟨k, rfl, Ch2.read X2 hk (.inr (if_pos rfl)) fun i hi => ⟨rfl, if_neg (by omega)⟩⟩⟩
      unfold m__law_spoilt
      refine p1 _ _ (seq_rt (if_t (n1 := n + 1) hcond (go _ _ _ (sk1 _ _ _ (frz (seq_nx (n1 := n + 1) (ds1 := st s3 s4 (s5 L) s6 s4 s8 none) (if_t (n1 := n + 1) ?_ ((set_of lc).trans rfl)) (ret_of (tup_ok (cons_ok (var_ok rfl) (cons_ok (tup_ok (cons_ok rfl (cons_ok (var_ok rfl) nil_ok)) (by simp)) nil_ok)) (by simp)))))))))
      simp [st, s3, d6, c2]
    · refine ⟨N1, told2 "text" (.int (k : Int)), st s3 s4 (s5 N1) s6 s4 s8 none, ?_, X1, N1len, .inl ⟨k, rfl, Ch1'.read X1 hk (.inr (if_pos rfl)) fun i hi => ⟨rfl, if_neg (by omega)⟩⟩⟩
      unfold m__law_spoilt
      refine p1 _ _ (seq_rt (if_t (n1 := n + 1) hcond (go _ _ _ (sk1 _ _ _ (frz (seq_nx (n1 := n + 1) (ds1 := st s3 s4 (s5 N1) s6 s4 s8 none) (if_f (n1 := n + 1) ?_ rfl) (ret_of (tup_ok (cons_ok (var_ok rfl) (cons_ok (tup_ok (cons_ok rfl (cons_ok (var_ok rfl) nil_ok)) (by simp)) nil_ok)) (by simp)))))))))
      simp [st, s3, d6, c2]
  have skA : ∀ a rest r', rest (n + 1) (st s3 s4 (s5 N) none none none none) = r' → sSeq (sIf (mAnd (mTest (m2 (m2 (mVar 3) (mC (.int 6)) oMod) (mC (.int 3)) oLt)) (mTest (m2 (mCB (mCons (m2 (mVar 2) (mC (.int 0)) oIx) (ret (some []))) oLen) (mC (.int 0)) oGt))) a sNx) rest (n + 1) (st s3 s4 (s5 N) none none none none) = r' := fun a rest r' h => by
    refine seq_nx (n1 := n + 1) (ds1 := st s3 s4 (s5 N) none none none none) (if_f (n1 := n + 1) ?_ rfl) h
    by_cases h : v % 6 < 3
    · have h2 : ¬ (0 : Int) < (C : Int) := fun q => cA ⟨h, by omega⟩
      have h3 : ¬ 0 < C := fun q => cA ⟨h, q⟩
      simp [st, s3, d6, h, i0, len0, h2, h3, -ov_ixL]
    · simp [st, s3, d6, h]
  -- one line of another length
  have other : ∀ l : List Nat, l.length ≠ C → l.length ≤ 1000 → 10 ∉ l → l.all okc = true → 1 < R → ∃ r : Nat, (if (1 : Int) > (k : Int) then (1 : Int) else (k : Int)) = (r : Int) ∧ Sp cs R (N.set k l) (told2 "text" (.int (r : Int))) := fun l hl hl2 h10 hok h1R => by
    have X2 : Txs (N.set k l) := X0.set h10 hl2
    have Ch2 := Ch0.set hk l
    by_cases hk0 : k = 0
    · refine ⟨1, by rw [if_pos (by omega)]; rfl, X2, by rw [List.length_set, n0], .inl ⟨1, rfl, Ch2.read X2 h1R (.inl ?_) fun i hi => ?_⟩⟩
      · rw [if_neg (by omega), if_pos hk0.symm]
        exact fun q => hl q.symm
      · have : i = 0 := by omega
        subst this
        exact ⟨rfl, by rw [if_pos hk0.symm, hok]⟩
    · refine ⟨k, by rw [if_neg (by omega)], X2, by rw [List.length_set, n0], .inl ⟨k, rfl, Ch2.read X2 hk (.inl ?_) fun i hi => ?_⟩⟩
      · rw [if_pos rfl, if_neg (by omega)]
        exact hl
      · rw [if_neg (by omega), if_neg (by omega), if_neg (by omega)]
        exact ⟨rfl, rfl⟩
  by_cases cB : v % 6 = 3 ∧ 1 < R
  · obtain ⟨c, hc, hat⟩ : ∃ c, (c = 65 ∨ c = 45) ∧ atI [D.str (tx [65]), .str (tx [45])] (v / 30 % 2) = some (.str (tx [c])) := by
      have : v / 30 % 2 = 0 ∨ v / 30 % 2 = 1 := by omega
      rcases this with h | h <;> rw [h]
      · exact ⟨65, .inl rfl, rfl⟩
      · exact ⟨45, .inr rfl, rfl⟩
    have a3 : oAdd (.str (tx row)) (.str (tx [c])) = some (.str (tx (row ++ [c]))) := ov_addS (by simp; omega)
    obtain ⟨r, er, hS⟩ := other (row ++ [c]) (by rw [List.length_append, wk]; simp) (by rw [List.length_append, wk]; simp; omega) (fun q => by
      rw [List.mem_append, List.mem_singleton] at q
      rcases q with q | q
      · exact tenk q
      · omega) (by
      rw [List.all_append, okk]
      rcases hc with rfl | rfl <;> decide) cB.2
    refine ⟨N.set k (row ++ [c]), told2 "text" (.int (r : Int)), st s3 s4 (s5 (N.set k (row ++ [c]))) none none none none, ?_, hS⟩
    unfold m__law_spoilt
    refine p1 _ _ (skA _ _ _ (seq_rt (if_t (n1 := n + 1) ?_ (seq_nx (n1 := n + 1) (ds1 := st s3 s4 (s5 (N.set k (row ++ [c]))) none none none none) (setK _ (row ++ [c]) N k _ none none none none (by rw [n0]; exact hk) (m2_ok (m2_ok (var_ok rfl) (var_ok rfl) ixk) (n2 := n + 1) (y := .str (tx [c])) ?_ a3) rfl) (ret_of (tup_ok (cons_ok (var_ok rfl) (cons_ok (tup_ok (cons_ok rfl (cons_ok (cb_ok (cons_ok (var_ok rfl) (cons_ok rfl nil_ok)) (ov_max2.trans (by rw [er]))) nil_ok)) (by simp)) nil_ok)) (by simp)))))))
    · have : (1 : Int) < (R : Int) := by omega
      simp [st, s3, d6, cB.1, lenR, this, cB.2]
    · simp [st, s3, sA, sGap, d30, d2, hat]
  have skB : ∀ a rest r', rest (n + 1) (st s3 s4 (s5 N) none none none none) = r' → sSeq (sIf (mAnd (mTest (m2 (m2 (mVar 3) (mC (.int 6)) oMod) (mC (.int 3)) oEq)) (mTest (m2 (mCB (mCons (mVar 2) (ret (some []))) oLen) (mC (.int 1)) oGt))) a sNx) rest (n + 1) (st s3 s4 (s5 N) none none none none) = r' := fun a rest r' h => by
    refine seq_nx (n1 := n + 1) (ds1 := st s3 s4 (s5 N) none none none none) (if_f (n1 := n + 1) ?_ rfl) h
    by_cases h : v % 6 = 3
    · have h2 : ¬ (1 : Int) < (R : Int) := fun q => cB ⟨h, by omega⟩
      have h3 : ¬ 1 < R := fun q => cB ⟨h, q⟩
      simp [st, s3, d6, h, lenR, h2, h3]
    · simp [st, s3, d6, h]
  by_cases cD : v % 6 = 4 ∧ 1 < R ∧ 0 < C
  · skip
    have t1 : oSl (some 1) none (.str (tx row)) = some (.str (tx (row.drop 1))) := slS_from (k := 1) (by omega) (by omega)
    obtain ⟨r, er, hS⟩ := other (row.drop 1) (by rw [List.length_drop, wk]; omega) (by rw [List.length_drop, wk]; omega) (fun q => tenk (List.mem_of_mem_drop q)) (List.all_eq_true.mpr fun x hx => List.all_eq_true.mp okk x (List.mem_of_mem_drop hx)) cD.2.1
    refine ⟨N.set k (row.drop 1), told2 "text" (.int (r : Int)), st s3 s4 (s5 (N.set k (row.drop 1))) none none none none, ?_, hS⟩
    unfold m__law_spoilt
    refine p1 _ _ (skA _ _ _ (skB _ _ _ (seq_rt (if_t (n1 := n + 1) ?_ (seq_nx (n1 := n + 1) (ds1 := st s3 s4 (s5 (N.set k (row.drop 1))) none none none none) (setK _ (row.drop 1) N k _ none none none none (by rw [n0]; exact hk) ?_ rfl) (ret_of (tup_ok (cons_ok (var_ok rfl) (cons_ok (tup_ok (cons_ok rfl (cons_ok (cb_ok (cons_ok (var_ok rfl) (cons_ok rfl nil_ok)) (ov_max2.trans (by rw [er]))) nil_ok)) (by simp)) nil_ok)) (by simp))))))))
    · have h1 : (1 : Int) < (R : Int) := by omega
      have h2 : (0 : Int) < (C : Int) := by omega
      simp [st, s3, d6, cD.1, lenR, h1, cD.2.1, i0, len0, h2, cD.2.2, -ov_ixL]
    · simp only [ev_sl, ev_part, ev_noPart, ev_m2, ev_mb, ev_var, ev_C]
      simp only [st, s4, List.getElem?_cons_zero, List.getElem?_cons_succ, ev_ret, ev_mb, ixk]
      rw [t1]
      rfl
  -- a column of gaps
  obtain ⟨spot, hsp, esp⟩ : ∃ s : Nat, s ≤ C ∧ v / 30 % ((C : Int) + 1) = (s : Int) := by
    have a1 := Int.emod_nonneg (v / 30) (show (C : Int) + 1 ≠ 0 by omega)
    have a2 := Int.emod_lt_of_pos (v / 30) (show (0 : Int) < (C : Int) + 1 by omega)
    exact ⟨(v / 30 % ((C : Int) + 1)).toNat, by omega, by omega⟩
  let s6 := some (D.int (spot : Int))
  have G := gap_fits F (by omega) hsp
  have lc := lc_of_comp (mi := mItA (mVar 2)) (tg := .one 9) (tt := mYes) (me := m2 (m2 (mSl (mVar 9) mNoPart (mPart (mVar 6))) (mC (.str "-")) oAdd) (mSl (mVar 9) (mPart (mVar 6)) mNoPart) oAdd) (vs := [9]) (n := n + 1) (n1 := n + 1) (ds := st s3 s4 (s5 N) s6 none none none) (as := (rowsN T R C).map fun l => D.str (tx l)) (by
      rw [hN]
      simp [st, txs])
    (compL_map (fun l => D.str (tx l)) (fun l => D.str (tx (l.take spot ++ [45] ++ l.drop spot))) (rowsN T R C) fun l hl => ⟨st s3 s4 (s5 N) s6 none none (some (.str (tx l))), rfl, by
      obtain ⟨i, hi, rfl⟩ := rowsN_in hl
      have t1 := slS_to (l := rowL T C i) (k := spot) (by rw [row_len]; omega) (by rw [row_len]; omega)
      have t2 := slS_from (l := rowL T C i) (k := spot) (by rw [row_len]; omega) (by rw [row_len]; omega)
      have a1 : oAdd (.str (tx ((rowL T C i).take spot))) (.str (tx [45])) = some (.str (tx ((rowL T C i).take spot ++ [45]))) := ov_addS (by simp [row_len]; omega)
      have a2 : oAdd (.str (tx ((rowL T C i).take spot ++ [45]))) (.str (tx ((rowL T C i).drop spot))) = some (.str (tx ((rowL T C i).take spot ++ [45] ++ (rowL T C i).drop spot))) := ov_addS (by simp [row_len]; omega)
      generalize rowL T C i = ll at *
      simp [st, s6, t1, t2, sGap, a1, a2]⟩) (by rw [List.length_map, rowsN_len]; omega)
  have hgap : (rowsN T R C).map (fun l => D.str (tx (l.take spot ++ [45] ++ l.drop spot))) = txs (rowsN (gapT T spot) R (C + 1)) := by
    unfold rowsN txs
    rw [List.map_map, List.map_map]
    refine List.map_congr_left fun i _ => ?_
    show D.str (tx ((rowL T C i).take spot ++ [45] ++ (rowL T C i).drop spot)) = _
    rw [gap_row hsp]; rfl
  rw [hgap] at lc
  refine ⟨rowsN (gapT T spot) R (C + 1), told2 "block" (.int 0), st s3 s4 (s5 N) s6 none none none, ?_, rows_X G (by omega), rowsN_len, .inr ⟨rfl, read_gap F (by omega) (by omega) hsp⟩⟩
  unfold m__law_spoilt
  refine p1 _ _ (skA _ _ _ (skB _ _ _ (seq_nx (n1 := n + 1) (ds1 := st s3 s4 (s5 N) none none none none) (if_f (n1 := n + 1) ?_ rfl) (seq_nx (n1 := n + 1) (ds1 := st s3 s4 (s5 N) s6 none none none) ?_ (ret_of (tup_ok (cons_ok lc (cons_ok (tup_ok (cons_ok rfl (cons_ok rfl nil_ok)) (by simp)) nil_ok)) (by simp)))))))
  · by_cases h : v % 6 = 4
    · by_cases hR1 : 1 < R
      · have hC0 : ¬ 0 < C := fun q => cD ⟨h, hR1, q⟩
        have h1 : (1 : Int) < (R : Int) := by omega
        have h2 : ¬ (0 : Int) < (C : Int) := by omega
        simp [st, s3, d6, h, lenR, h1, hR1, i0, len0, h2, hC0, -ov_ixL]
      · have h1 : ¬ (1 : Int) < (R : Int) := by omega
        simp [st, s3, d6, h, lenR, h1, hR1]
    · simp [st, s3, d6, h]
  · simp [st, s3, s6, d30, dC1, i0, len0, esp, -ov_ixL]
end K67

namespace K67
open PySem L2 PyProof.Rows GW TL
variable {cs : Nat → Addr} {T : Nat → Nat → Nat} {R C : Nat}
/-! ### rows drawn column by column -/
def mix (T : Nat → Nat → Nat) (i : Nat) (col : Nat → Nat) (t R : Nat) : List (List Nat) := (List.range R).map fun r => if r < t then rowL T i r ++ [col r] else rowL T i r
theorem mix_len {i t : Nat} {col : Nat → Nat} : (mix T i col t R).length = R := by unfold mix; simp
theorem mix_get {i t r : Nat} {col : Nat → Nat} (hr : r < R) : (mix T i col t R).getD r [] = if r < t then rowL T i r ++ [col r] else rowL T i r := by
  unfold mix
  rw [List.getD_eq_getElem?_getD, List.getElem?_map, List.getElem?_range hr]; rfl
theorem mix_set {i t c : Nat} {col : Nat → Nat} (ht : t < R) : (mix T i col t R).set t (rowL T i t ++ [c]) = mix T i (fun r => if r = t then c else col r) (t + 1) R := by
  apply List.ext_getElem?
  intro r
  by_cases hr : r < R
  · have e2 : (mix T i (fun r => if r = t then c else col r) (t + 1) R)[r]? = some (if r < t + 1 then rowL T i r ++ [if r = t then c else col r] else rowL T i r) := by
      unfold mix
      rw [List.getElem?_map, List.getElem?_range hr]; rfl
    rw [e2]
    by_cases h : r = t
    · subst h
      rw [List.getElem?_set_self (by rw [mix_len]; exact hr), if_pos (by omega), if_pos rfl]
    · have e1 : (mix T i col t R)[r]? = some (if r < t then rowL T i r ++ [col r] else rowL T i r) := by
        unfold mix
        rw [List.getElem?_map, List.getElem?_range hr]; rfl
      rw [List.getElem?_set_ne (fun q => h q.symm), e1, if_neg h]
      by_cases h2 : r < t
      · rw [if_pos h2, if_pos (by omega)]
      · rw [if_neg h2, if_neg (by omega)]
  · rw [List.getElem?_eq_none (by rw [List.length_set, mix_len]; omega), List.getElem?_eq_none (by rw [mix_len]; omega)]
theorem mix_zero {i : Nat} {col : Nat → Nat} : mix T i col 0 R = rowsN T R i := by
  unfold mix rowsN
  refine List.map_congr_left fun r _ => ?_
  rw [if_neg (by omega)]
def putCol (T : Nat → Nat → Nat) (i : Nat) (col : Nat → Nat) : Nat → Nat → Nat := fun r k => if k = i then col r else T r k
theorem mix_all {i : Nat} {col : Nat → Nat} : mix T i col R R = rowsN (putCol T i col) R (i + 1) := by
  unfold mix rowsN
  refine List.map_congr_left fun r hr => ?_
  rw [if_pos (List.mem_range.mp hr)]
  unfold rowL
  rw [List.range_succ, List.map_append]
  congr 1
  · refine List.map_congr_left fun k hk => ?_
    have := List.mem_range.mp hk
    unfold putCol
    rw [if_neg (by omega)]
  · show [col r] = [putCol T i col r i]
    unfold putCol
    rw [if_pos rfl]
theorem columns_eval {ns : List Int} {n : Int} {S : List Nat} (hS : GoodS S) (h0 : 0 ≤ n) (h1 : n ≤ 90000) (hR0 : 0 < R) (hR : R ≤ 8) (hC : C ≤ 20) : ∃ (T : Nat → Nat → Nat) (n' : Int), OKB T R C ∧ n ≤ n' ∧ n' ≤ n + 200 ∧ f__law_columns cs n [scD ns, .non, .str (tx S), .int (R : Int), .int (C : Int)] = some (.ok (.lst (rowsL T R C)), n') := by
  have hSl := hS.len
  have hSp := hS.pos
  have d5 : divOk 5 = true := divL (by decide)
  have dR : divOk (R : Int) = true := divL ⟨by omega, by omega⟩
  have dS : divOk (S.length : Int) = true := divL ⟨by omega, by omega⟩
  have rR : r62 (R : Int) = true := r62_nat (by omega)
  have rC : r62 (C : Int) = true := r62_nat (by omega)
  have lenS : oLen [.str (tx S)] = some (.int (S.length : Int)) := ov_lenS (by omega)
  let st : Option D → Option D → Option D → Option D → Option D → DS := fun x5 x6 x7 x8 x9 => [some (scD ns), none, some (.str (tx S)), some (.int (R : Int)), some (.int (C : Int)), x5, x6, x7, x8, x9]
  let s5 : List (List Nat) → Option D := fun L => some (D.lst (txs L))
  obtain ⟨n', ds', e1, ⟨hn1, hn2⟩, T, hT, hcol, x6, x7, x8, x9, rfl⟩ := forR_inv (tg := .one 6) (body := b__law_columns_2 cs) (N := C) (n := n) (ds := st (s5 (rowsN (fun _ _ => 45) R 0)) none none none none)
    (fun i n' ds => (n ≤ n' ∧ n' ≤ n + 9 * (i : Int)) ∧ ∃ T : Nat → Nat → Nat, (∀ r k, r < R → k < i → T r k = 45 ∨ okS (T r k) = true) ∧ (∀ k, k < i → ∃ r, r < R ∧ T r k ≠ 45) ∧ ∃ x6 x7 x8 x9, ds = st (s5 (rowsN T R i)) x6 x7 x8 x9)
    (fun i n1 ds hi ⟨⟨hn1, hn2⟩, T, hT, hcol, x6, x7, x8, x9, hd⟩ => by
      subst hd
      obtain ⟨v, hv, v0, v1⟩ := next_eval (cs := cs) (ns := ns) (n := n1) (by omega) (by omega)
      obtain ⟨full, hfl, efl⟩ : ∃ r : Nat, r < R ∧ v % (R : Int) = (r : Int) := by
        have a1 := Int.emod_nonneg v (show (R : Int) ≠ 0 by omega)
        have a2 := Int.emod_lt_of_pos v (show (0 : Int) < R by omega)
        exact ⟨(v % (R : Int)).toNat, by omega, by omega⟩
      let s6 := some (D.int (i : Int))
      let s7 := some (D.int (full : Int))
      obtain ⟨n2, ds2, e2, ⟨hm1, hm2⟩, col, hc1, hc2, y8, y9, rfl⟩ := forR_inv (tg := .one 8) (body := b__law_columns_1 cs) (N := R) (n := n1 + 1) (ds := st (s5 (rowsN T R i)) s6 s7 x8 x9)
        (fun t n' ds => (n1 + 1 ≤ n' ∧ n' ≤ n1 + 1 + (t : Int)) ∧ ∃ col : Nat → Nat, (∀ r, r < t → col r = 45 ∨ okS (col r) = true) ∧ (full < t → col full ≠ 45) ∧ ∃ x8 x9, ds = st (s5 (mix T i col t R)) s6 s7 x8 x9)
        (fun t n2 ds ht ⟨⟨hm1, hm2⟩, col, hc1, hc2, x8, x9, hd⟩ => by
          subst hd
          obtain ⟨u, hu, u0, u1⟩ := next_eval (cs := cs) (ns := ns) (n := n2) (by omega) (by omega)
          obtain ⟨c, hcS, hat⟩ : ∃ c, c ∈ S ∧ oIx (.str (tx S)) (.int (u / 5 % (S.length : Int))) = some (.str (tx [c])) := by
            have a1 := Int.emod_nonneg (u / 5) (show (S.length : Int) ≠ 0 by omega)
            have a2 := Int.emod_lt_of_pos (u / 5) (show (0 : Int) < S.length by omega)
            obtain ⟨c, e1, e2, e3⟩ := atI_ok (l := S) a1 a2
            exact ⟨c, e3, by rw [ov_ixS (l := S) (by omega), e1]; rfl⟩
          have hok := hS.ok c hcS
          have hc45 : c ≠ 45 := fun q => by rw [q] at hok; revert hok; decide
          let s8 := some (D.int (t : Int))
          let s9 := some (D.int u)
          have ixt : oIx (.lst (txs (mix T i col t R))) (.int (t : Int)) = some (.str (tx (rowL T i t))) := by
            rw [txs_ixL (by rw [mix_len]; exact ht), mix_get ht, if_neg (by omega)]
          have put : ∀ (c : Nat) (m : GW.M), m (n2 + 1) (st (s5 (mix T i col t R)) s6 s7 s8 s9) = some (.ok (.str (tx (rowL T i t ++ [c]))), n2 + 1) → sSetI 5 m (mPN 5) (mVar 8) (n2 + 1) (st (s5 (mix T i col t R)) s6 s7 s8 s9) = some (.nx, n2 + 1, st (s5 (mix T i (fun r => if r = t then c else col r) (t + 1) R)) s6 s7 s8 s9) := fun c m hm => by
            refine (setI1_of hm rfl (var_ok rfl) (by rw [txs_len, mix_len]; exact ht)).trans ?_
            rw [set_txs, mix_set ht]
            rfl
          have aS : oAdd (.str (tx (rowL T i t))) (.str (tx [c])) = some (.str (tx (rowL T i t ++ [c]))) := ov_addS (by simp [row_len]; omega)
          have aG : oAdd (.str (tx (rowL T i t))) (.str (tx [45])) = some (.str (tx (rowL T i t ++ [45]))) := ov_addS (by simp [row_len]; omega)
          refine ⟨st (s5 (mix T i col t R)) s6 s7 s8 x9, rfl, n2 + 1, ?_⟩
          by_cases hfull : t = full ∨ u % 5 < 3
          · refine ⟨st (s5 (mix T i (fun r => if r = t then c else col r) (t + 1) R)) s6 s7 s8 s9, ?_, by push_cast; omega, fun r => if r = t then c else col r, fun r hr => ?_, fun hf => ?_, _, _, rfl⟩
            · unfold b__law_columns_1
              refine seq_nx (n1 := n2 + 1) (ds1 := st (s5 (mix T i col t R)) s6 s7 s8 s9) (by simp [st, s9, hu]) (if_t (n1 := n2 + 1) ?_ (put c _ (m2_ok (m2_ok (var_ok rfl) (var_ok rfl) ixt) (n2 := n2 + 1) (y := .str (tx [c])) ?_ aS)))
              · by_cases hh : t = full
                · simp [st, s7, s8, hh]
                · have h3 : ¬ (t : Int) = (full : Int) := by omega
                  have h4 := hfull.resolve_left hh
                  simp [st, s7, s8, s9, h3, hh, d5, h4]
              · refine m2_ok (var_ok rfl) (n2 := n2 + 1) (y := .int (u / 5 % (S.length : Int))) ?_ hat
                simp [st, s9, d5, lenS, dS, hSp]
            · dsimp only
              by_cases h : r = t
              · rw [if_pos h]; exact .inr hok
              · rw [if_neg h]; exact hc1 r (by omega)
            · dsimp only
              by_cases h : full = t
              · rw [if_pos h]; exact hc45
              · rw [if_neg h]; exact hc2 (by omega)
          · have hfa : t ≠ full := fun q => hfull (.inl q)
            have hfb : ¬ u % 5 < 3 := fun q => hfull (.inr q)
            refine ⟨st (s5 (mix T i (fun r => if r = t then 45 else col r) (t + 1) R)) s6 s7 s8 s9, ?_, by push_cast; omega, fun r => if r = t then 45 else col r, fun r hr => ?_, fun hf => ?_, _, _, rfl⟩
            · unfold b__law_columns_1
              refine seq_nx (n1 := n2 + 1) (ds1 := st (s5 (mix T i col t R)) s6 s7 s8 s9) (by simp [st, s9, hu]) (if_f (n1 := n2 + 1) ?_ (put 45 _ (m2_ok (m2_ok (var_ok rfl) (var_ok rfl) ixt) (n2 := n2 + 1) (y := .str (tx [45])) ?_ aG)))
              · have h3 : ¬ (t : Int) = (full : Int) := by omega
                simp [st, s7, s8, s9, h3, hfa, d5, hfb]
              · simp [sGap]
            · dsimp only
              by_cases h : r = t
              · rw [if_pos h]; exact .inl rfl
              · rw [if_neg h]; exact hc1 r (by omega)
            · dsimp only
              rw [if_neg (by omega)]; exact hc2 (by omega)) ⟨⟨by omega, by omega⟩, fun _ => 45, fun r hr => by omega, fun h => by omega, x8, x9, by rw [mix_zero]⟩
      refine ⟨st (s5 (rowsN T R i)) s6 x7 x8 x9, rfl, n2, st (s5 (rowsN (putCol T i col) R (i + 1))) s6 s7 y8 y9, ?_, by push_cast; omega, putCol T i col, fun r k hr hk => ?_, fun k hk => ?_, _, _, _, _, rfl⟩
      · unfold b__law_columns_2
        rw [← mix_all]
        refine seq_nx (n1 := n1 + 1) (ds1 := st (s5 (rowsN T R i)) s6 s7 x8 x9) ?_ (for_of (n1 := n1 + 1) (as := rngD 0 R) ?_ e2)
        · simp [st, s7, hv, dR, efl, hR0]
        · simp [st, rR]
      · unfold putCol
        by_cases h : k = i
        · rw [if_pos h]; exact hc1 r hr
        · rw [if_neg h]; exact hT r k hr (by omega)
      · by_cases h : k = i
        · refine ⟨full, hfl, ?_⟩
          unfold putCol
          rw [if_pos h]; exact hc2 hfl
        · obtain ⟨r, hr, hne⟩ := hcol k (by omega)
          refine ⟨r, hr, ?_⟩
          unfold putCol
          rw [if_neg h]; exact hne) ⟨⟨by omega, by omega⟩, fun _ _ => 45, fun r k _ hk => by omega, fun k hk => by omega, none, none, none, none, rfl⟩
  have B : OKB T R C := ⟨hR0, by omega, by omega, hT, hcol⟩
  refine ⟨T, n', B, hn1, by omega, ?_⟩
  unfold f__law_columns fnC
  have e0 : (startD 10 [scD ns, .non, .str (tx S), .int (R : Int), .int (C : Int)]).set 1 none = st none none none none none := rfl
  have lc := lc_of_comp (mi := mRng (mCons (mVar 3) (ret (some [])))) (tg := .one 8) (tt := mYes) (me := mC (.str "")) (vs := [8]) (n := n) (n1 := n) (ds := st none none none none none) (as := rngD 0 R) (by simp [st, rR])
    (compL_rng (fun _ => D.str (tx [])) fun i hi => ⟨st none none none (some (.int (i : Int))) none, rfl, by simp [al4]⟩) (by rw [rng_len]; omega)
  have lc : mLc (mRng (mCons (mVar 3) (ret (some [])))) (.one 8) mYes (mC (.str "")) [8] n (st none none none none none) = some (.ok (.lst (txs (rowsN (fun _ _ => 45) R 0))), n) := by
    rw [lc]
    unfold rowsN txs
    rw [List.map_map]
    rfl
  have e : m__law_columns cs n (st none none none none none) = some (.rt (.lst (rowsL T R C)), n', st (s5 (rowsN T R C)) x6 x7 x8 x9) := by
    unfold m__law_columns
    rw [rows_txs]
    refine seq_nx (n1 := n) (ds1 := st (s5 (rowsN (fun _ _ => 45) R 0)) none none none none) ((set_of lc).trans rfl) (seq_nx (for_of (n1 := n) (as := rngD 0 C) ?_ e1) (ret_of (var_ok rfl)))
    simp [st, rC]
  rw [e0, e]
  rfl
end K67

namespace K67
open PySem L2 PyProof.Rows GW TL
variable {cs : Nat → Addr}
/-! ### a laying's columns: the move, the first sign, the second -/
structure Cl where
  k : Nat
  a : Nat
  b : Nat
def Cl.x (w : Cl) : Nat := if w.k = 98 then 45 else w.a
def Cl.y (w : Cl) : Nat := if w.k = 97 then 45 else w.b
def oA (W : List Cl) : List Nat := W.flatMap fun w => if w.k = 98 then [] else [w.a]
def oB (W : List Cl) : List Nat := W.flatMap fun w => if w.k = 97 then [] else [w.b]
def tA (W : List Cl) : List Nat := W.map Cl.x
def tB (W : List Cl) : List Nat := W.map Cl.y
def mv (W : List Cl) : List Nat := W.map Cl.k
structure Gc (w : Cl) : Prop where
  k : w.k = 112 ∨ w.k = 97 ∨ w.k = 98
  a : okS w.a = true
  b : okS w.b = true
theorem Gc.na {w : Cl} (h : Gc w) : w.a ≠ 45 := fun q => by have := h.a; rw [q] at this; revert this; decide
theorem Gc.nb {w : Cl} (h : Gc w) : w.b ≠ 45 := fun q => by have := h.b; rw [q] at this; revert this; decide
theorem fil_A {W : List Cl} (h : ∀ w ∈ W, Gc w) : (tA W).filter (fun c => decide (c ≠ 45)) = oA W := by
  induction W with
  | nil => rfl
  | cons w W ih =>
    have hw := h w (by simp)
    have := ih fun w hw => h w (by simp [hw])
    unfold tA oA at this ⊢
    rw [List.map_cons, List.flatMap_cons, ← this]
    unfold Cl.x
    by_cases hk : w.k = 98
    · simp [hk]
    · simp [hk, hw.na]
theorem fil_B {W : List Cl} (h : ∀ w ∈ W, Gc w) : (tB W).filter (fun c => decide (c ≠ 45)) = oB W := by
  induction W with
  | nil => rfl
  | cons w W ih =>
    have hw := h w (by simp)
    have := ih fun w hw => h w (by simp [hw])
    unfold tB oB at this ⊢
    rw [List.map_cons, List.flatMap_cons, ← this]
    unfold Cl.y
    by_cases hk : w.k = 97
    · simp [hk]
    · simp [hk, hw.nb]
theorem oA_len (W : List Cl) : (oA W).length ≤ W.length := by
  induction W with
  | nil => simp [oA]
  | cons w W ih =>
    unfold oA at ih ⊢
    rw [List.flatMap_cons, List.length_append, List.length_cons]
    split
    · show 0 + _ ≤ _
      omega
    · show 1 + _ ≤ _
      omega
theorem oB_len (W : List Cl) : (oB W).length ≤ W.length := by
  induction W with
  | nil => simp [oB]
  | cons w W ih =>
    unfold oB at ih ⊢
    rw [List.flatMap_cons, List.length_append, List.length_cons]
    split
    · show 0 + _ ≤ _
      omega
    · show 1 + _ ≤ _
      omega
theorem x_ok {w : Cl} (h : Gc w) : w.x = 45 ∨ okS w.x = true := by
  unfold Cl.x
  split
  · exact .inl rfl
  · exact .inr h.a
theorem y_ok {w : Cl} (h : Gc w) : w.y = 45 ∨ okS w.y = true := by
  unfold Cl.y
  split
  · exact .inl rfl
  · exact .inr h.b
theorem xy_sign {w : Cl} (h : Gc w) : w.x ≠ 45 ∨ w.y ≠ 45 := by
  unfold Cl.x Cl.y
  by_cases hk : w.k = 98
  · right
    rw [if_neg (by omega)]
    exact h.nb
  · left
    rw [if_neg hk]
    exact h.na
/-- the two rows as a table -/
def WT (W : List Cl) : Nat → Nat → Nat := fun r k => if r = 0 then (tA W).getD k 45 else (tB W).getD k 45
theorem WT_rows (W : List Cl) : rowsN (WT W) 2 W.length = [tA W, tB W] := by
  have e0 : rowL (WT W) W.length 0 = tA W := by
    have := getD_map (tA W)
    have hl : (tA W).length = W.length := by unfold tA; simp
    rw [hl] at this
    exact this
  have e1 : rowL (WT W) W.length 1 = tB W := by
    have := getD_map (tB W)
    have hl : (tB W).length = W.length := by unfold tB; simp
    rw [hl] at this
    exact this
  show [rowL (WT W) W.length 0, rowL (WT W) W.length 1] = _
  rw [e0, e1]
theorem WT_at {W : List Cl} {k : Nat} {w : Cl} (h : W[k]? = some w) : WT W 0 k = w.x ∧ WT W 1 k = w.y := by
  unfold WT tA tB
  constructor
  · rw [if_pos rfl, List.getD_eq_getElem?_getD, List.getElem?_map, h]; rfl
  · rw [if_neg (by omega), List.getD_eq_getElem?_getD, List.getElem?_map, h]; rfl
theorem WT_ok {W : List Cl} (h : ∀ w ∈ W, Gc w) (hl : W.length ≤ 20) : OKB (WT W) 2 W.length := by
  refine ⟨by decide, by decide, by omega, fun r k hr hk => ?_, fun k hk => ?_⟩
  · have hw := List.getElem?_eq_getElem hk
    have hg := h _ (List.getElem_mem hk)
    have ha := WT_at hw
    rcases (show r = 0 ∨ r = 1 by omega) with rfl | rfl
    · rw [ha.1]; exact x_ok hg
    · rw [ha.2]; exact y_ok hg
  · have hw := List.getElem?_eq_getElem hk
    have hg := h _ (List.getElem_mem hk)
    have ha := WT_at hw
    rcases xy_sign hg with q | q
    · exact ⟨0, by decide, by rw [ha.1]; exact q⟩
    · exact ⟨1, by decide, by rw [ha.2]; exact q⟩
/-! ### written -/
theorem JTx_eq (L : List (List Nat)) : JTx L = tx (joinL [10] L) := by
  rw [← JTx_tl]
theorem snoc_A (W : List Cl) (w : Cl) : oA (W ++ [w]) = oA W ++ (if w.k = 98 then [] else [w.a]) ∧ oB (W ++ [w]) = oB W ++ (if w.k = 97 then [] else [w.b]) ∧ tA (W ++ [w]) = tA W ++ [w.x] ∧ tB (W ++ [w]) = tB W ++ [w.y] ∧ mv (W ++ [w]) = mv W ++ [w.k] := by
  unfold oA oB tA tB mv
  simp
theorem s_a : Str.ofString "a" = tx [97] := by decide +kernel
theorem s_b : Str.ofString "b" = tx [98] := by decide +kernel
theorem s_p : Str.ofString "p" = tx [112] := by decide +kernel
/-- own[i] += text -/
theorem augI_of {i : Nat} {mj me : GW.M} {n : Int} {ds : DS} {L : List (List Nat)} {j : Nat} {l : List Nat} (hd : ds[i]? = some (some (.lst (txs L)))) (hj : mj n ds = some (.ok (.int (j : Int)), n)) (hl : j < L.length) (hL : L.length ≤ 100) (he : me n ds = some (.ok (.str (tx l)), n)) (hs : (L.getD j []).length + l.length ≤ 16777216) :
    sAugI i (mPN i) mj me oAdd n ds = some (.nx, n, ds.set i (some (.lst (txs (L.set j (L.getD j [] ++ l)))))) := by
  have hx : (txs L)[(j : Int).toNat]? = some (D.str (tx (L.getD j []))) := by
    unfold txs
    rw [Int.toNat_natCast, List.getElem?_map, List.getElem?_eq_getElem hl, List.getD_eq_getElem?_getD, List.getElem?_eq_getElem hl]; rfl
  have ha : oAdd (.str (tx (L.getD j []))) (.str (tx l)) = some (.str (tx (L.getD j [] ++ l))) := ov_addS hs
  have hc : (0 : Int) ≤ (j : Int) ∧ (txs L).length ≤ 16777216 := ⟨by omega, by rw [txs_len]; omega⟩
  unfold sAugI
  refine E_ok (a := Pth.nil) (n1 := n) (by simp [mPN, conAt, hd, getP, isCon]) (E_ok hj ?_)
  simp only [hd, getP, if_pos hc, hx]
  refine E_ok he ?_
  simp only [ha, setP]
  rw [Int.toNat_natCast, set_txs]
theorem written_eval {W : List Cl} (h : ∀ w ∈ W, Gc w) (hl : W.length ≤ 20) : f_written_laying cs [.str (tx (oA W)), .str (tx (oB W)), .str (tx (mv W))] = some (.ok (.str (JTx [tA W, tB W]))) := by
  have lA := oA_len W
  have lB := oB_len W
  let st : Option D → Option D → Option D → Option D → DS := fun x3 x4 x5 x6 => [some (.str (tx (oA W))), some (.str (tx (oB W))), some (.str (tx (mv W))), x3, x4, x5, x6]
  let s3 : List (List Nat) → Option D := fun L => some (D.lst (txs L))
  obtain ⟨n', ds', hb, rfl, x6, rfl⟩ := forM_inv (tg := .one 6) (body := b_written_laying_1 cs) (f := fun c => D.str (tx [c])) (l := mv W) (n := 0) (ds := st (s3 [[], []]) (some (.int 0)) (some (.int 0)) none)
    (fun i n ds => n = 0 ∧ ∃ x6, ds = st (s3 [tA (W.take i), tB (W.take i)]) (some (.int ((oA (W.take i)).length : Int))) (some (.int ((oB (W.take i)).length : Int))) x6)
    (fun i c n ds hi ⟨hn, x6, hd⟩ => by
      subst hn hd
      unfold mv at hi
      rw [List.getElem?_map] at hi
      obtain ⟨w, hw, rfl⟩ := Option.map_eq_some_iff.mp hi
      have hg := h w (List.mem_of_getElem? hw)
      have htk : W.take (i + 1) = W.take i ++ [w] := take_snoc hw
      obtain ⟨q1, q2, q3, q4, q5⟩ := snoc_A (W.take i) w
      have hiW : i < W.length := (List.getElem?_eq_some_iff.mp hw).1
      have lt : (W.take i).length = i := by rw [List.length_take]; omega
      have ltA : (tA (W.take i)).length = i := by unfold tA; rw [List.length_map, lt]
      have ltB : (tB (W.take i)).length = i := by unfold tB; rw [List.length_map, lt]
      have loA := oA_len (W.take i)
      have loB := oB_len (W.take i)
      rw [htk, q1, q2, q3, q4]
      have hsplit : W = W.take i ++ w :: W.drop (i + 1) := by
        have e : W[i] = w := by
          have := List.getElem?_eq_getElem hiW
          rw [this] at hw
          exact Option.some.inj hw
        rw [← e, List.getElem_cons_drop, List.take_append_drop]
      let s6 := some (D.str (tx [w.k]))
      generalize hA : tA (W.take i) = ta at *
      generalize hB : tB (W.take i) = tb at *
      refine ⟨st (s3 [ta, tb]) (some (.int ((oA (W.take i)).length : Int))) (some (.int ((oB (W.take i)).length : Int))) s6, rfl, 0, st (s3 [ta ++ [w.x], tb ++ [w.y]]) (some (.int ((oA (W.take i) ++ (if w.k = 98 then [] else [w.a])).length : Int))) (some (.int ((oB (W.take i) ++ (if w.k = 97 then [] else [w.b])).length : Int))) s6, ?_, rfl, _, rfl⟩
      have first : ∀ x5, (sIf (mTest (m2 (mVar 6) (mC (.str "b")) oEq)) (sAugI 3 (mPN 3) (mC (.int 0)) (mC (.str "-")) oAdd) (sSeq (sAugI 3 (mPN 3) (mC (.int 0)) (m2 (mVar 0) (mVar 4) oIx) oAdd) (sAug 4 (mC (.int 1)) oAdd))) 0 (st (s3 [ta, tb]) (some (.int ((oA (W.take i)).length : Int))) x5 s6) = some (.nx, 0, st (s3 [ta ++ [w.x], tb]) (some (.int ((oA (W.take i) ++ (if w.k = 98 then [] else [w.a])).length : Int))) x5 s6) := fun x5 => by
        by_cases hk : w.k = 98
        · have hx : w.x = 45 := by unfold Cl.x; rw [if_pos hk]
          rw [hx, if_pos hk, List.append_nil]
          refine if_t (n1 := 0) (by simp [st, s6, s_b, hk]) ((augI_of (j := 0) (L := [ta, tb]) (l := [45]) rfl rfl (by simp) (by simp) (by simp [sGap]) (by simp; omega)).trans rfl)
        · have hx : w.x = w.a := by unfold Cl.x; rw [if_neg hk]
          rw [hx, if_neg hk]
          have hix : oIx (.str (tx (oA W))) (.int ((oA (W.take i)).length : Int)) = some (.str (tx [w.a])) := by
            rw [ov_ixS (l := oA W) (by omega), GW.atI_nat]
            have e : oA W = oA (W.take i) ++ w.a :: oA (W.drop (i + 1)) := by
              conv => lhs; rw [hsplit]
              unfold oA
              rw [List.flatMap_append, List.flatMap_cons, if_neg hk]
              rfl
            rw [e, List.getElem?_append_right (Nat.le_refl _), Nat.sub_self]
            rfl
          refine if_f (n1 := 0) (by simp [st, s6, s_b, tx_inj, hk]) (seq_nx (n1 := 0) (ds1 := st (s3 [ta ++ [w.a], tb]) (some (.int ((oA (W.take i)).length : Int))) x5 s6) ((augI_of (j := 0) (L := [ta, tb]) (l := [w.a]) rfl rfl (by simp) (by simp) (m2_ok (var_ok rfl) (var_ok rfl) hix) (by simp; omega)).trans rfl) ?_)
          simp [st]
      have second : ∀ x4 t, (sIf (mTest (m2 (mVar 6) (mC (.str "a")) oEq)) (sAugI 3 (mPN 3) (mC (.int 1)) (mC (.str "-")) oAdd) (sSeq (sAugI 3 (mPN 3) (mC (.int 1)) (m2 (mVar 1) (mVar 5) oIx) oAdd) (sAug 5 (mC (.int 1)) oAdd))) 0 (st (s3 [t, tb]) x4 (some (.int ((oB (W.take i)).length : Int))) s6) = some (.nx, 0, st (s3 [t, tb ++ [w.y]]) x4 (some (.int ((oB (W.take i) ++ (if w.k = 97 then [] else [w.b])).length : Int))) s6) := fun x4 t => by
        by_cases hk : w.k = 97
        · have hx : w.y = 45 := by unfold Cl.y; rw [if_pos hk]
          rw [hx, if_pos hk, List.append_nil]
          refine if_t (n1 := 0) (by simp [st, s6, s_a, hk]) ((augI_of (j := 1) (L := [t, tb]) (l := [45]) rfl rfl (by simp) (by simp) (by simp [sGap]) (by simp; omega)).trans rfl)
        · have hx : w.y = w.b := by unfold Cl.y; rw [if_neg hk]
          rw [hx, if_neg hk]
          have hix : oIx (.str (tx (oB W))) (.int ((oB (W.take i)).length : Int)) = some (.str (tx [w.b])) := by
            rw [ov_ixS (l := oB W) (by omega), GW.atI_nat]
            have e : oB W = oB (W.take i) ++ w.b :: oB (W.drop (i + 1)) := by
              conv => lhs; rw [hsplit]
              unfold oB
              rw [List.flatMap_append, List.flatMap_cons, if_neg hk]
              rfl
            rw [e, List.getElem?_append_right (Nat.le_refl _), Nat.sub_self]
            rfl
          refine if_f (n1 := 0) (by simp [st, s6, s_a, tx_inj, hk]) (seq_nx (n1 := 0) (ds1 := st (s3 [t, tb ++ [w.b]]) x4 (some (.int ((oB (W.take i)).length : Int))) s6) ((augI_of (j := 1) (L := [t, tb]) (l := [w.b]) rfl rfl (by simp) (by simp) (m2_ok (var_ok rfl) (var_ok rfl) hix) (by simp; omega)).trans rfl) ?_)
          simp [st]
      unfold b_written_laying_1
      exact seq_nx (first _) (second _ _)) ⟨rfl, none, rfl⟩
  have hmv : (mv W).length = W.length := by unfold mv; simp
  rw [hmv, List.take_length] at hb
  have hj : oJoin (tx [10]) (.lst (txs [tA W, tB W])) = some (.str (JTx [tA W, tB W])) := join_nl false (by simp) (fun l hl => by
    have h1 : (tA W).length = W.length := by unfold tA; simp
    have h2 : (tB W).length = W.length := by unfold tB; simp
    simp only [List.mem_cons, List.not_mem_nil, or_false] at hl
    rcases hl with rfl | rfl <;> omega)
  unfold f_written_laying
  apply fn0_of
  have e : m_written_laying cs 0 (startD 7 [.str (tx (oA W)), .str (tx (oB W)), .str (tx (mv W))]) = some (.rt (.str (JTx [tA W, tB W])), 0, st (s3 [tA W, tB W]) (some (.int ((oA W).length : Int))) (some (.int ((oB W).length : Int))) x6) := by
    unfold m_written_laying
    refine seq_nx (n1 := 0) (ds1 := st (s3 [[], []]) none none none) ?_ (seq_nx (n1 := 0) (ds1 := st (s3 [[], []]) (some (.int 0)) none none) (by simp [st]) (seq_nx (n1 := 0) (ds1 := st (s3 [[], []]) (some (.int 0)) (some (.int 0)) none) (by simp [st]) (seq_nx (for_of (n1 := 0) (as := (mv W).map fun c => D.str (tx [c])) (by simp [st]) hb) (ret_of (mm1_ok (x := tx [10]) (n1 := 0) ?_ (var_ok rfl) hj)))))
    · simp [startD, st, s3, al4, txs]
    · simp [sNl]
  rw [e]; rfl
end K67

namespace K67
open PySem L2 PyProof.Rows GW TL
variable {cs : Nat → Addr}
theorem repl_tx {l : List Nat} (hl : l.length ≤ 1000) : oRepl (Str.ofString "-") (Str.ofString "") (.str (tx l)) = some (.str (tx (l.filter fun c => decide (c ≠ 45)))) := by
  rw [sGap, al4]
  have h1 : (tx l).length = l.length := by simp [Str.length]
  have h2 : (tx []).length = 0 := rfl
  show (if (tx l).length + ((tx l).length + 1) * (tx []).length ≤ 16777216 then some (D.str (Txt.replace (tx l) (tx [45]) (tx []))) else none) = _
  rw [h1, h2]
  rw [if_pos (by omega)]
  congr 1
  have h3 := PyProof.Rows.replace_strikes (tx l) 45
  have h4 : (tx l).cps.toList = l := by simp
  have h5 : (Txt.replace (tx l) (tx [45]) (tx [])).cps.toList = l.filter (fun c => c != 45) := by
    have : Txt.replace (tx l) (tx [45]) (tx []) = Txt.replace (tx l) ⟨#[45]⟩ ⟨#[]⟩ := rfl
    rw [this, h3, h4]
  have h6 : (fun c : Nat => decide (c ≠ 45)) = fun c => c != 45 := by
    funext c
    by_cases h : c = 45 <;> simp [h]
  rw [h6, ← h5]
/-! ### a laying read -/
theorem split_len {L : List (List Nat)} (X : Txs L) : mTest (m2 (mCB (mCons (mM1 (mVar 0) (mC (.str "\n")) oSplit) (ret (some []))) oLen) (mC (.int 2)) oNe) 0 (startD 5 [.str (JTx L)]) = some (.ok (decide (L.length ≠ 2)), 0) := by
  have hsp := split_nl X.ne X.nl X.len X.wide
  have h1 : mM1 (mVar 0) (mC (.str "\n")) oSplit 0 (startD 5 [.str (JTx L)]) = some (.ok (.lst (txs L)), 0) := mm1_ok (var_ok rfl) (n1 := 0) (y := .str (tx [10])) (by simp [sNl]) hsp
  have h2 : oLen [.lst (txs L)] = some (.int (L.length : Int)) := by
    show some (D.int ((txs L).length : Int)) = _
    rw [txs_len]
  refine t5 (m2_ok (cb_ok (cons_ok h1 nil_ok) h2) rfl ?_)
  by_cases h : L.length = 2
  · have : (L.length : Int) = 2 := by omega
    simp [h]
  · have : ¬ (L.length : Int) = 2 := by omega
    simp [h, this]
theorem laying_len {L : List (List Nat)} (X : Txs L) (h : L.length ≠ 2) : f_read_laying cs [.str (JTx L)] = some (.ex 11 [("line", 2)]) := by
  have h1 := split_len X
  rw [decide_eq_true h] at h1
  unfold f_read_laying
  apply fn0_ex
  have e : m_read_laying cs 0 (startD 5 [.str (JTx L)]) = some (.ex 11 [("line", 2)], 0, startD 5 [.str (JTx L)]) := by
    unfold m_read_laying
    refine seq_ex (if_t (n1 := 0) h1 ?_)
    simp
  rw [e]; rfl
theorem laying_ex {L : List (List Nat)} (X : Txs L) (h : L.length = 2) {c : Nat} {fs : List (Str × Int)} (hb : f_read_block cs [.str (JTx L)] = some (.ex c fs)) : f_read_laying cs [.str (JTx L)] = some (.ex c fs) := by
  have h1 := split_len X
  rw [decide_eq_false (fun q => q h)] at h1
  unfold f_read_laying
  apply fn0_ex
  have e : m_read_laying cs 0 (startD 5 [.str (JTx L)]) = some (.ex c fs, 0, startD 5 [.str (JTx L)]) := by
    unfold m_read_laying
    refine seq_nx (n1 := 0) (ds1 := startD 5 [.str (JTx L)]) (if_f (n1 := 0) h1 rfl) (seq_ex ?_)
    simp [startD, hb]
  rw [e]; rfl
theorem laying_ok {W : List Cl} (h : ∀ w ∈ W, Gc w) (hl : W.length ≤ 20) : f_read_laying cs [.str (JTx [tA W, tB W])] = some (.ok (.tup [.str (tx (oA W)), .str (tx (oB W)), .str (tx (mv W))])) := by
  have B := WT_ok h hl
  have F : Fits (WT W) 2 W.length := ⟨B.hR, B.hR8, B.hC, B.things⟩
  have X := rows_X F (by decide)
  have hr := read_rows (cs := cs) B (by decide)
  have hf : oFld (cs 0) "rows" (blkD cs (WT W) 2 W.length) = some (.tup (rowsL (WT W) 2 W.length)) := fld_rows
  rw [rows_txs] at hf
  rw [WT_rows] at X hr hf
  have h1 := split_len X
  rw [decide_eq_false (fun q => q rfl)] at h1
  have lA : (tA W).length = W.length := by unfold tA; simp
  have lB : (tB W).length = W.length := by unfold tB; simp
  generalize blkD cs (WT W) 2 W.length = b at *
  let st : Option D → Option D → Option D → Option D → DS := fun x1 x2 x3 x4 => [some (.str (JTx [tA W, tB W])), x1, x2, x3, x4]
  let pairs : List D := W.map fun w => D.tup [.str (tx [w.x]), .str (tx [w.y])]
  have hz : zipD ((tA W).map fun c => D.str (tx [c])) ((tB W).map fun c => D.str (tx [c])) = pairs := by
    show zipD ((W.map Cl.x).map _) ((W.map Cl.y).map _) = W.map _
    rw [List.map_map, List.map_map]
    clear h hl B F X hr hf h1 lA lB
    induction W with
    | nil => rfl
    | cons w W ih => simp only [List.map_cons, zipD, ih]; rfl
  obtain ⟨n', ds', hb, rfl, x3, x4, rfl⟩ := forM_inv (tg := .tup [3, 4]) (body := b_read_laying_1 cs) (f := fun w : Cl => D.tup [.str (tx [w.x]), .str (tx [w.y])]) (l := W) (n := 0) (ds := st (some b) (some (.str (tx []))) none none)
    (fun i n ds => n = 0 ∧ ∃ x3 x4, ds = st (some b) (some (.str (tx (mv (W.take i))))) x3 x4)
    (fun i w n ds hi ⟨hn, x3, x4, hd⟩ => by
      subst hn hd
      have hg := h w (List.mem_of_getElem? hi)
      have htk : W.take (i + 1) = W.take i ++ [w] := take_snoc hi
      obtain ⟨_, _, _, _, q5⟩ := snoc_A (W.take i) w
      have lt : (mv (W.take i)).length ≤ 20 := by unfold mv; rw [List.length_map, List.length_take]; omega
      rw [htk, q5]
      generalize mv (W.take i) = m at *
      let s3 := some (D.str (tx [w.x]))
      let s4 := some (D.str (tx [w.y]))
      refine ⟨st (some b) (some (.str (tx m))) s3 s4, rfl, 0, st (some b) (some (.str (tx (m ++ [w.k])))) s3 s4, ?_, rfl, _, _, rfl⟩
      have ad : ∀ c : Nat, oAdd (.str (tx m)) (.str (tx [c])) = some (.str (tx (m ++ [c]))) := fun c => ov_addS (by simp; omega)
      unfold b_read_laying_1
      rcases hg.k with hk | hk | hk
      · have hx : w.x ≠ 45 := by unfold Cl.x; rw [if_neg (by omega)]; exact hg.na
        have hy : w.y ≠ 45 := by unfold Cl.y; rw [if_neg (by omega)]; exact hg.nb
        refine if_f (n1 := 0) (by simp [st, s4, sGap, tx_inj, hy]) (if_f (n1 := 0) (by simp [st, s3, sGap, tx_inj, hx]) ?_)
        have := ad 112
        rw [hk]
        simp [st, s_p, this]
      · have hy : w.y = 45 := by unfold Cl.y; rw [if_pos hk]
        refine if_t (n1 := 0) (by simp [st, s4, sGap, tx_inj, hy]) ?_
        have := ad 97
        rw [hk]
        simp [st, s_a, this]
      · have hx : w.x = 45 := by unfold Cl.x; rw [if_pos hk]
        have hy : w.y ≠ 45 := by unfold Cl.y; rw [if_neg (by omega)]; exact hg.nb
        refine if_f (n1 := 0) (by simp [st, s4, sGap, tx_inj, hy]) (if_t (n1 := 0) (by simp [st, s3, sGap, tx_inj, hx]) ?_)
        have := ad 98
        rw [hk]
        simp [st, s_b, this]) ⟨rfl, none, none, rfl⟩
  rw [List.take_length] at hb
  have r0 := repl_tx (l := tA W) (by omega)
  rw [fil_A h] at r0
  have r1 := repl_tx (l := tB W) (by omega)
  rw [fil_B h] at r1
  have i0 : oIx (.tup (txs [tA W, tB W])) (.int 0) = some (.str (tx (tA W))) := rfl
  have i1 : oIx (.tup (txs [tA W, tB W])) (.int 1) = some (.str (tx (tB W))) := rfl
  unfold f_read_laying
  apply fn0_of
  have e : m_read_laying cs 0 (startD 5 [.str (JTx [tA W, tB W])]) = some (.rt (.tup [.str (tx (oA W)), .str (tx (oB W)), .str (tx (mv W))]), 0, st (some b) (some (.str (tx (mv W)))) x3 x4) := by
    unfold m_read_laying
    refine seq_nx (n1 := 0) (ds1 := st none none none none) ((if_f (n1 := 0) h1 rfl).trans rfl) (seq_nx (n1 := 0) (ds1 := st (some b) none none none) ((set_of (call_ok (cons_ok (var_ok rfl) nil_ok) hr)).trans rfl) (seq_nx (n1 := 0) (ds1 := st (some b) (some (.str (tx []))) none none) ?_ (seq_nx (for_of (n1 := 0) (as := pairs) ?_ hb) (ret_of (tup_ok (cons_ok (m1_ok (m2_ok (m1_ok (var_ok rfl) hf) rfl i0) r0) (cons_ok (m1_ok (m2_ok (m1_ok (var_ok rfl) hf) rfl i1) r1) (cons_ok (var_ok rfl) nil_ok))) (by simp))))))
    · simp [st, al4]
    · have hc : (mCons (m2 (m1 (mVar 1) (oFld (cs 0) "rows")) (mC (.int 0)) oIx) (mCons (m2 (m1 (mVar 1) (oFld (cs 0) "rows")) (mC (.int 1)) oIx) (ret (some [])))) 0 (st (some b) (some (.str (tx []))) none none) = some (.ok [.str (tx (tA W)), .str (tx (tB W))], 0) := cons_ok (m2_ok (m1_ok (var_ok rfl) hf) rfl i0) (cons_ok (m2_ok (m1_ok (var_ok rfl) hf) rfl i1) nil_ok)
      have hi : ∀ l : List Nat, itemsD (.str (tx l)) = some (l.map fun c => D.str (tx [c])) := fun l => by simp
      unfold mZip2
      rw [ev_mb, hc]
      show ret (oZip2 [.str (tx (tA W)), .str (tx (tB W))]) 0 _ = _
      have : oZip2 [.str (tx (tA W)), .str (tx (tB W))] = some pairs := by
        unfold oZip2
        simp only [hi, hz]
      rw [this]; rfl
  rw [e]; rfl
end K67

namespace K67
open PySem L2 PyProof.Rows GW TL
variable {cs : Nat → Addr}
def orL (l : List Nat) : List Nat := if l = [] then [45] else l
theorem orT_ok {i : Nat} {n : Int} {ds : DS} {l : List Nat} (h : ds[i]? = some (some (.str (tx l)))) (hl : l.length ≤ 100) : mOrT (mVar i) (mC (.str "-")) n ds = some (.ok (.str (tx (orL l))), n) := by
  have hlen : (tx l).length = l.length := by simp [Str.length]
  unfold mOrT
  rw [ev_mb, ev_var, h]
  show (if (tx l).length ≤ 16777216 then (if (tx l).length = 0 then mC (.str "-") else ret (some (.str (tx l)))) else ret none) n ds = _
  rw [hlen, if_pos (by omega)]
  unfold orL
  by_cases he : l = []
  · rw [if_pos he, if_pos (by rw [he]; rfl)]
    simp [sGap]
  · rw [if_neg he, if_neg (fun q => he (List.length_eq_zero_iff.mp q))]
    rfl
theorem pab_at (t : Int) (h0 : 0 ≤ t) (h1 : t < 3) : ∃ k : Nat, oIx (.str (Str.ofString "pab")) (.int t) = some (.str (tx [k])) ∧ ((t = 0 ∧ k = 112) ∨ (t = 1 ∧ k = 97) ∨ (t = 2 ∧ k = 98)) := by
  have e : Str.ofString "pab" = tx [112, 97, 98] := by decide +kernel
  rw [e]
  have : t = 0 ∨ t = 1 ∨ t = 2 := by omega
  rcases this with rfl | rfl | rfl
  · exact ⟨112, by rw [ov_ixS (l := [112, 97, 98]) (by simp)]; rfl, .inl ⟨rfl, rfl⟩⟩
  · exact ⟨97, by rw [ov_ixS (l := [112, 97, 98]) (by simp)]; rfl, .inr (.inl ⟨rfl, rfl⟩)⟩
  · exact ⟨98, by rw [ov_ixS (l := [112, 97, 98]) (by simp)]; rfl, .inr (.inr ⟨rfl, rfl⟩)⟩
theorem same_refl1 (x : Str) (d : D) (k : Nat) (hd : f__law_same cs (k + 1) [d, d] = some (.ok (.bl true))) : f__law_same cs (k + 2) [told2 x d, told2 x d] = some (.ok (.bl true)) :=
  same_seq (b := true) (f := fun d => d) (l := [D.str x, d]) (by simp) fun a ha => by
    simp only [List.mem_cons, List.not_mem_nil, or_false] at ha
    rcases ha with rfl | rfl
    · exact same_str k x
    · exact hd
theorem same_strs (k : Nat) (b : Bool) {L : List (List Nat)} (hl : L.length ≤ 1000) : f__law_same cs (k + 2) [seqD b (txs L), seqD b (txs L)] = some (.ok (.bl true)) :=
  same_seq (b := b) (f := fun l => D.str (tx l)) (l := L) (by omega) fun l _ => same_str k (tx l)
theorem laying_eval {ns : List Int} {n : Int} {S : List Nat} (hS : GoodS S) (h0 : 0 ≤ n) (h1 : n ≤ 90000) : ∃ n', n ≤ n' ∧ n' ≤ n + 30 ∧ f__law_laying cs n [scD ns, .non, .str (tx S)] = some (.ok (.bl true), n') := by
  obtain ⟨v, hv, v0, v1⟩ := next_eval (cs := cs) (ns := ns) h0 (show n ≤ 1000000 by omega)
  have hSl := hS.len
  have hSp := hS.pos
  have dk : ∀ k : Int, 0 < k → k < 1000000 → divOk k = true := fun k a b => divL ⟨by omega, by omega⟩
  have d14 := dk 14 (by decide) (by decide)
  have d3 := dk 3 (by decide) (by decide)
  have d300 := dk 300 (by decide) (by decide)
  have dS : divOk (S.length : Int) = true := divL ⟨by omega, by omega⟩
  have lenS : oLen [.str (tx S)] = some (.int (S.length : Int)) := ov_lenS (by omega)
  obtain ⟨N, hN, hN14⟩ : ∃ k : Nat, v % 14 = (k : Int) ∧ k ≤ 13 := ⟨(v % 14).toNat, by omega, by omega⟩
  have rN : r62 (N : Int) = true := r62_nat (by omega)
  let st : Option D → Option D → Option D → Option D → Option D → Option D → Option D → Option D → Option D → Option D → Option D → DS := fun x3 x4 x5 x6 x7 x8 x9 x10 x11 x12 x13 => [some (scD ns), none, some (.str (tx S)), x3, x4, x5, x6, x7, x8, x9, x10, x11, x12, x13]
  let s3 : List Cl → Option D := fun W => some (D.str (tx (mv W)))
  let s4 : List Cl → Option D := fun W => some (D.lst (txs [oA W, oB W, tA W, tB W]))
  have pick : ∀ x : Int, ∃ c, c ∈ S ∧ oIx (.str (tx S)) (.int (x % (S.length : Int))) = some (.str (tx [c])) := fun x => by
    have a1 := Int.emod_nonneg x (show (S.length : Int) ≠ 0 by omega)
    have a2 := Int.emod_lt_of_pos x (show (0 : Int) < S.length by omega)
    obtain ⟨c, e1, e2, e3⟩ := atI_ok (l := S) a1 a2
    exact ⟨c, e3, by rw [ov_ixS (l := S) (by omega), e1]; rfl⟩
  obtain ⟨n4, ds4, L1, hn4, W, hW, hg, x5, x6, x7, x8, rfl⟩ := forR_inv (tg := .one 5) (body := b__law_laying_1 cs) (N := N) (n := n + 1) (ds := st (s3 []) (s4 []) none none none none none none none none none)
    (fun i n' ds => n' = n + 1 + (i : Int) ∧ ∃ W : List Cl, W.length = i ∧ (∀ w ∈ W, Gc w) ∧ ∃ x5 x6 x7 x8, ds = st (s3 W) (s4 W) x5 x6 x7 x8 none none none none none)
    (fun i n1 ds hi ⟨hn1, W, hW, hg, x5, x6, x7, x8, hd⟩ => by
      subst hd
      obtain ⟨u, hu, u0, u1⟩ := next_eval (cs := cs) (ns := ns) (n := n1) (by omega) (by omega)
      obtain ⟨k, hk, hkt⟩ := pab_at (u % 3) (Int.emod_nonneg _ (by decide)) (Int.emod_lt_of_pos _ (by decide))
      obtain ⟨a, ha, ea⟩ := pick (u / 3)
      obtain ⟨b, hb, eb⟩ := pick (u / 300)
      let w : Cl := ⟨k, a, b⟩
      have hgw : Gc w := ⟨by show k = 112 ∨ k = 97 ∨ k = 98; omega, hS.ok a ha, hS.ok b hb⟩
      have na := hgw.na
      have nb := hgw.nb
      obtain ⟨q1, q2, q3, q4, q5⟩ := snoc_A W w
      have lA := oA_len W
      have lB := oB_len W
      have ltA : (tA W).length = i := by unfold tA; rw [List.length_map, hW]
      have ltB : (tB W).length = i := by unfold tB; rw [List.length_map, hW]
      have ltm : (mv W).length = i := by unfold mv; rw [List.length_map, hW]
      let s5 := some (D.int (i : Int))
      let s6 := some (D.int u)
      let p : List Nat := if k = 98 then [] else [a]
      let q : List Nat := if k = 97 then [] else [b]
      have hp : [w.x] = orL p := by
        show [Cl.x ⟨k, a, b⟩] = orL (if k = 98 then [] else [a])
        unfold Cl.x orL
        by_cases h : k = 98 <;> simp [h]
      have hq : [w.y] = orL q := by
        show [Cl.y ⟨k, a, b⟩] = orL (if k = 97 then [] else [b])
        unfold Cl.y orL
        by_cases h : k = 97 <;> simp [h]
      have pl : p.length ≤ 1 := by show (if k = 98 then [] else [a]).length ≤ 1; split <;> simp
      have ql : q.length ≤ 1 := by show (if k = 97 then [] else [b]).length ≤ 1; split <;> simp
      have opl : (orL p).length ≤ 1 := by rw [← hp]; simp
      have oql : (orL q).length ≤ 1 := by rw [← hq]; simp
      let W2 := W ++ [w]
      have eW3 : s3 W2 = some (D.str (tx (mv W ++ [k]))) := by show some (D.str (tx (mv (W ++ [w])))) = _; rw [q5]
      have eW4 : s4 W2 = some (D.lst [.str (tx (oA W ++ p)), .str (tx (oB W ++ q)), .str (tx (tA W ++ orL p)), .str (tx (tB W ++ orL q))]) := by
        show some (D.lst (txs [oA (W ++ [w]), oB (W ++ [w]), tA (W ++ [w]), tB (W ++ [w])])) = _
        rw [q1, q2, q3, q4, hp, hq]
        rfl
      refine ⟨st (s3 W) (s4 W) s5 x6 x7 x8 none none none none none, rfl, n1 + 1, st (s3 W2) (s4 W2) s5 s6 (some (.str (tx p))) (some (.str (tx q))) none none none none none, ?_, by push_cast; omega, W2, by show (W ++ [w]).length = i + 1; simp [hW], fun w' hw' => ?_, _, _, _, _, rfl⟩
      · rw [eW3, eW4]
        let z3 := some (D.str (tx (mv W ++ [k])))
        let za := some (D.str (tx [a]))
        let zb := some (D.str (tx [b]))
        let zp := some (D.str (tx p))
        let zq := some (D.str (tx q))
        unfold b__law_laying_1
        have am : oAdd (.str (tx (mv W))) (.str (tx [k])) = some (.str (tx (mv W ++ [k]))) := ov_addS (by simp; omega)
        refine seq_nx (n1 := n1 + 1) (ds1 := st (s3 W) (s4 W) s5 s6 x7 x8 none none none none none) (by simp [st, s6, hu]) (seq_nx (n1 := n1 + 1) (ds1 := st z3 (s4 W) s5 s6 x7 x8 none none none none none) ((set_of (m2_ok (var_ok rfl) (m2_ok rfl (n2 := n1 + 1) (y := .int (u % 3)) ?_ hk) am)).trans rfl)
          (seq_nx (n1 := n1 + 1) (ds1 := st z3 (s4 W) s5 s6 za x8 none none none none none) ((set_of (m2_ok (var_ok rfl) (n2 := n1 + 1) (y := .int (u / 3 % (S.length : Int))) ?_ ea)).trans rfl) (seq_nx (n1 := n1 + 1) (ds1 := st z3 (s4 W) s5 s6 za zb none none none none none) ((set_of (m2_ok (var_ok rfl) (n2 := n1 + 1) (y := .int (u / 300 % (S.length : Int))) ?_ eb)).trans rfl)
          (seq_nx (n1 := n1 + 1) (ds1 := st z3 (s4 W) s5 s6 za zq none none none none none) ?_ (seq_nx (n1 := n1 + 1) (ds1 := st z3 (s4 W) s5 s6 zp zq none none none none none) ?_ ?_)))))
        · simp [st, s6, d3]
        · simp [st, s6, d3, lenS, dS, hSp]
        · simp [st, s6, d300, lenS, dS, hSp]
        · rcases hkt with ⟨h, h2⟩ | ⟨h, h2⟩ | ⟨h, h2⟩
          · have e : zq = zb := by show some (D.str (tx (if k = 97 then [] else [b]))) = _; rw [if_neg (by omega)]
            rw [e]
            exact if_f (n1 := n1 + 1) (by simp [st, s6, d3, h]) rfl
          · have e : zq = some (D.str (tx [])) := by show some (D.str (tx (if k = 97 then [] else [b]))) = _; rw [if_pos h2]
            rw [e]
            exact if_t (n1 := n1 + 1) (by simp [st, s6, d3, h]) (by simp [st, al4])
          · have e : zq = zb := by show some (D.str (tx (if k = 97 then [] else [b]))) = _; rw [if_neg (by omega)]
            rw [e]
            exact if_f (n1 := n1 + 1) (by simp [st, s6, d3, h]) rfl
        · rcases hkt with ⟨h, h2⟩ | ⟨h, h2⟩ | ⟨h, h2⟩
          · have e : zp = za := by show some (D.str (tx (if k = 98 then [] else [a]))) = _; rw [if_neg (by omega)]
            rw [e]
            exact if_f (n1 := n1 + 1) (by simp [st, s6, d3, h]) rfl
          · have e : zp = za := by show some (D.str (tx (if k = 98 then [] else [a]))) = _; rw [if_neg (by omega)]
            rw [e]
            exact if_f (n1 := n1 + 1) (by simp [st, s6, d3, h]) rfl
          · have e : zp = some (D.str (tx [])) := by show some (D.str (tx (if k = 98 then [] else [a]))) = _; rw [if_pos h2]
            rw [e]
            exact if_t (n1 := n1 + 1) (by simp [st, s6, d3, h]) (by simp [st, al4])
        · have b0 : oAdd (.str (tx (oA W))) (.str (tx p)) = some (.str (tx (oA W ++ p))) := ov_addS (by omega)
          have b1 : oAdd (.str (tx (oB W))) (.str (tx q)) = some (.str (tx (oB W ++ q))) := ov_addS (by omega)
          have b2 : oAdd (.str (tx (tA W))) (.str (tx (orL p))) = some (.str (tx (tA W ++ orL p))) := ov_addS (by omega)
          have b3 : oAdd (.str (tx (tB W))) (.str (tx (orL q))) = some (.str (tx (tB W ++ orL q))) := ov_addS (by omega)
          have i0 : oIx (.lst (txs [oA W, oB W, tA W, tB W])) (.int 0) = some (.str (tx (oA W))) := rfl
          have i1 : oIx (.lst (txs [oA W, oB W, tA W, tB W])) (.int 1) = some (.str (tx (oB W))) := rfl
          have i2 : oIx (.lst (txs [oA W, oB W, tA W, tB W])) (.int 2) = some (.str (tx (tA W))) := rfl
          have i3 : oIx (.lst (txs [oA W, oB W, tA W, tB W])) (.int 3) = some (.str (tx (tB W))) := rfl
          exact (set_of (lst_ok (cons_ok (m2_ok (m2_ok (var_ok rfl) rfl i0) (var_ok rfl) b0) (cons_ok (m2_ok (m2_ok (var_ok rfl) rfl i1) (var_ok rfl) b1) (cons_ok (m2_ok (m2_ok (var_ok rfl) rfl i2) (orT_ok rfl (by omega)) b2) (cons_ok (m2_ok (m2_ok (var_ok rfl) rfl i3) (orT_ok rfl (by omega)) b3) nil_ok)))) (by simp))).trans rfl
      · rcases List.mem_append.mp hw' with h | h
        · exact hg w' h
        · rw [List.mem_singleton.mp h]; exact hgw) ⟨by omega, [], rfl, (fun _ h => by cases h), none, none, none, none, rfl⟩
  have B := WT_ok hg (by omega)
  have F : Fits (WT W) 2 W.length := ⟨B.hR, B.hR8, B.hC, B.things⟩
  have X := rows_X F (by decide)
  have lA := oA_len W
  have lB := oB_len W
  have ltA : (tA W).length = W.length := by unfold tA; rw [List.length_map]
  have ltB : (tB W).length = W.length := by unfold tB; rw [List.length_map]
  rw [WT_rows] at X
  have XA : Txs [tA W] := ⟨by simp, fun l hl => X.nl l (by simp at hl ⊢; exact .inl hl), by simp, fun l hl => X.wide l (by simp at hl ⊢; exact .inl hl)⟩
  have X3 : Txs [tA W, tB W, tA W] := ⟨by simp, fun l hl => X.nl l (by simp only [List.mem_cons, List.not_mem_nil, or_false] at hl ⊢; rcases hl with h | h | h <;> simp [h]), by simp, fun l hl => X.wide l (by simp only [List.mem_cons, List.not_mem_nil, or_false] at hl ⊢; rcases hl with h | h | h <;> simp [h])⟩
  have wr := written_eval (cs := cs) hg (by omega)
  have lo := laying_ok (cs := cs) hg (by omega)
  have to1 := told_ok (cs := cs) (b := true) lo
  have sm1 := same_refl1 (cs := cs) "read" (.tup [.str (tx (oA W)), .str (tx (oB W)), .str (tx (mv W))]) 2 (same_strs (cs := cs) 1 true (L := [oA W, oB W, mv W]) (by simp))
  obtain ⟨L, due, eSp, Sp⟩ := spoilt_eval (cs := cs) (ns := ns) (n := n4) F (by decide) (by omega) (by omega) (by omega)
  rw [rows_txs, WT_rows] at eSp
  have jn := join_nl false Sp.X.len Sp.X.wide
  have jn : oJoin (tx [10]) (.lst (txs L)) = some (.str (JTx L)) := jn
  have to2 : f__law_told cs [.str (JTx L), .bl true] = some (.ok due) := by
    rcases Sp.due with ⟨k, e, h⟩ | ⟨e, h⟩
    · exact told_ex (b := true) (laying_ex Sp.X Sp.n h) (.inl ⟨rfl, (k : Int), rfl, e⟩)
    · exact told_ex (b := true) (laying_ex Sp.X Sp.n h) (.inr ⟨rfl, rfl, e⟩)
  have sm2 : f__law_same cs 4 [due, due] = some (.ok (.bl true)) := by
    rcases Sp.due with ⟨k, e, _⟩ | ⟨e, _⟩
    · rw [e]; exact same_refl1 "text" _ 2 (same_int 2 _)
    · rw [e]; exact same_refl1 "block" _ 2 (same_int 2 _)
  have tA1 : f__law_told cs [.str (tx (tA W)), .bl true] = some (.ok (told2 "text" (.int 2))) := by
    have e : tx (tA W) = JTx [tA W] := by rw [JTx_eq]; rfl
    rw [e]
    exact told_ex (b := true) (laying_len XA (by simp)) (.inl ⟨rfl, 2, rfl, rfl⟩)
  have hT : tx (tA W ++ [10] ++ tB W) = JTx [tA W, tB W] := by
    rw [JTx_eq, List.append_assoc]; rfl
  have hT3 : tx (tA W ++ [10] ++ tB W ++ [10] ++ tA W) = JTx [tA W, tB W, tA W] := by
    rw [JTx_eq, List.append_assoc, List.append_assoc, List.append_assoc]; rfl
  have tA3 : f__law_told cs [.str (tx (tA W ++ [10] ++ tB W ++ [10] ++ tA W)), .bl true] = some (.ok (told2 "text" (.int 2))) := by
    rw [hT3]
    exact told_ex (b := true) (laying_len X3 (by simp)) (.inl ⟨rfl, 2, rfl, rfl⟩)
  have sm3 : f__law_same cs 4 [told2 "text" (.int 2), told2 "text" (.int 2)] = some (.ok (.bl true)) := same_refl1 "text" _ 2 (same_int 2 2)
  rw [← hT] at wr to1
  have b0 : oAdd (.str (tx (tA W))) (.str (tx [10])) = some (.str (tx (tA W ++ [10]))) := ov_addS (by simp; omega)
  have b1 : oAdd (.str (tx (tA W ++ [10]))) (.str (tx (tB W))) = some (.str (tx (tA W ++ [10] ++ tB W))) := ov_addS (by simp; omega)
  have b2 : oAdd (.str (tx (tA W ++ [10] ++ tB W))) (.str (tx [10])) = some (.str (tx (tA W ++ [10] ++ tB W ++ [10]))) := ov_addS (by simp; omega)
  have b3 : oAdd (.str (tx (tA W ++ [10] ++ tB W ++ [10]))) (.str (tx (tA W))) = some (.str (tx (tA W ++ [10] ++ tB W ++ [10] ++ tA W))) := ov_addS (by simp; omega)
  have i0 : oIx (.lst (txs [oA W, oB W, tA W, tB W])) (.int 0) = some (.str (tx (oA W))) := rfl
  have i1 : oIx (.lst (txs [oA W, oB W, tA W, tB W])) (.int 1) = some (.str (tx (oB W))) := rfl
  have i2 : oIx (.lst (txs [oA W, oB W, tA W, tB W])) (.int 2) = some (.str (tx (tA W))) := rfl
  have i3 : oIx (.lst (txs [oA W, oB W, tA W, tB W])) (.int 3) = some (.str (tx (tB W))) := rfl
  have sl2 : oSl (some 2) none (.lst (txs [oA W, oB W, tA W, tB W])) = some (.lst (txs [tA W, tB W])) := by
    show some (D.lst (GW.cutD (txs [oA W, oB W, tA W, tB W]) (some ((2 : Nat) : Int)) none)) = _
    rw [cut_from (by rw [txs_len]; simp)]
    rfl
  generalize hTX : tA W ++ [10] ++ tB W = TX at *
  let z9 := some (D.str (tx TX))
  let z11 := some (D.lst (txs L))
  let z12 := some due
  have nlc : ∀ n ds, mC (.str "\n") n ds = some (.ok (.str (tx [10])), n) := fun n ds => by simp [sNl]
  obtain ⟨n6, ds6, L2, rfl, x13, rfl⟩ := forL_inv (tg := .one 13) (body := b__law_laying_2 cs) (as := [.str (tx (tA W)), .str (tx (TX ++ [10] ++ tA W))]) (n := n4 + 1) (ds := st (s3 W) (s4 W) x5 x6 x7 x8 z9 z9 z11 z12 none)
    (fun _ n ds => n = n4 + 1 ∧ ∃ x13, ds = st (s3 W) (s4 W) x5 x6 x7 x8 z9 z9 z11 z12 x13)
    (fun i d n ds hd ⟨hn, x13, he⟩ => by
      subst hn he
      refine ⟨st (s3 W) (s4 W) x5 x6 x7 x8 z9 z9 z11 z12 (some d), rfl, n4 + 1, st (s3 W) (s4 W) x5 x6 x7 x8 z9 z9 z11 z12 (some d), ?_, rfl, _, rfl⟩
      have ht : f__law_told cs [d, .bl true] = some (.ok (told2 "text" (.int 2))) := by
        rcases i with _ | _ | i
        · cases hd; exact tA1
        · cases hd; exact tA3
        · cases hd
      unfold b__law_laying_2
      exact if_f (n1 := n4 + 1) (test_no (call_ok (cons_ok (call_ok (cons_ok (var_ok rfl) (cons_ok rfl nil_ok)) ht) (cons_ok (tup_ok (cons_ok rfl (cons_ok rfl nil_ok)) (by simp)) nil_ok)) sm3)) rfl) ⟨rfl, none, rfl⟩
  refine ⟨n4 + 1, by omega, by omega, ?_⟩
  unfold f__law_laying fnC
  have e0 : (startD 14 [scD ns, .non, .str (tx S)]).set 1 none = st none none none none none none none none none none none := rfl
  have e : m__law_laying cs n (st none none none none none none none none none none none) = some (.rt (.bl true), n4 + 1, st (s3 W) (s4 W) x5 x6 x7 x8 z9 z9 z11 z12 x13) := by
    unfold m__law_laying
    refine seq_nx (n1 := n) (ds1 := st (s3 []) none none none none none none none none none none) ?_ (seq_nx (n1 := n) (ds1 := st (s3 []) (s4 []) none none none none none none none none none) ?_ (seq_nx (for_of (n1 := n + 1) (as := rngD 0 N) ?_ L1)
      (seq_nx (n1 := n4) (ds1 := st (s3 W) (s4 W) x5 x6 x7 x8 z9 none none none none) ((set_of (m2_ok (m2_ok (m2_ok (var_ok rfl) rfl i2) (nlc _ _) b0) (m2_ok (var_ok rfl) rfl i3) b1)).trans rfl)
      (seq_nx (n1 := n4) (ds1 := st (s3 W) (s4 W) x5 x6 x7 x8 z9 z9 none none none) ((set_of (call_ok (cons_ok (m2_ok (var_ok rfl) rfl i0) (cons_ok (m2_ok (var_ok rfl) rfl i1) (cons_ok (var_ok rfl) nil_ok))) wr)).trans rfl)
      (seq_nx (n1 := n4) (ds1 := st (s3 W) (s4 W) x5 x6 x7 x8 z9 z9 none none none) (if_f (n1 := n4) (or_f (n1 := n4) ?_ ?_) rfl)
      (seq_nx (n1 := n4) (ds1 := st (s3 W) (s4 W) x5 x6 x7 x8 z9 z9 none none none) (if_f (n1 := n4) (test_no (call_ok (cons_ok (call_ok (cons_ok (var_ok rfl) (cons_ok rfl nil_ok)) to1) (cons_ok (tup_ok (cons_ok rfl (cons_ok (tup_ok (cons_ok (m2_ok (var_ok rfl) rfl i0) (cons_ok (m2_ok (var_ok rfl) rfl i1) (cons_ok (var_ok rfl) nil_ok))) (by simp)) nil_ok)) (by simp)) nil_ok)) sm1)) rfl)
      (seq_nx (n1 := n4 + 1) (ds1 := st (s3 W) (s4 W) x5 x6 x7 x8 z9 z9 z11 z12 none) ?_
      (seq_nx (n1 := n4 + 1) (ds1 := st (s3 W) (s4 W) x5 x6 x7 x8 z9 z9 z11 z12 none) (if_f (n1 := n4 + 1) (test_no (call_ok (cons_ok (call_ok (cons_ok (mm1_ok (nlc _ _) (var_ok rfl) jn) (cons_ok rfl nil_ok)) to2) (cons_ok (var_ok rfl) nil_ok)) sm2)) rfl)
      (seq_nx (for_of (n1 := n4 + 1) (as := [.str (tx (tA W)), .str (tx (TX ++ [10] ++ tA W))]) ?_ L2) (by simp))))))))))
    · simp [st, s3, mv, al4]
    · simp [st, s4, oA, oB, tA, tB, txs, al4]
    · simp [st, hv, d14, hN, rN]
    · simp [st, z9, isT]
    · simp [st, z9]
    · have hc : mCall (f__law_spoilt cs) (mCons (mVar 0) (mCons (mC .non) (mCons (mSl (mVar 4) (mPart (mC (.int 2))) mNoPart) (ret (some []))))) n4 (st (s3 W) (s4 W) x5 x6 x7 x8 z9 z9 none none none) = some (.ok (.tup [.lst (txs L), due]), n4 + 1) := callC_ok (cons_ok (var_ok rfl) (cons_ok rfl (cons_ok (by simp [st, s4, sl2]) nil_ok))) eSp
      simp only [sAsg]
      unfold sE
      rw [hc]
      rfl
    · have hl : mLst (mCons (m2 (mVar 4) (mC (.int 2)) oIx) (mCons (m2 (m2 (mVar 9) (mC (.str "\n")) oAdd) (m2 (mVar 4) (mC (.int 2)) oIx) oAdd) (ret (some [])))) (n4 + 1) (st (s3 W) (s4 W) x5 x6 x7 x8 z9 z9 z11 z12 none) = some (.ok (.lst [.str (tx (tA W)), .str (tx (TX ++ [10] ++ tA W))]), n4 + 1) := lst_ok (cons_ok (m2_ok (var_ok rfl) rfl i2) (cons_ok (m2_ok (m2_ok (var_ok rfl) (nlc _ _) b2) (m2_ok (var_ok rfl) rfl i2) b3) nil_ok)) (by simp)
      show mItA (mLst _) (n4 + 1) _ = _
      unfold mItA
      rw [ev_mb, hl]
      rfl
  rw [e0, e]
  rfl
end K67

namespace K67
open PySem L2 PyProof.Rows GW TL
variable {cs : Nat → Addr} {T : Nat → Nat → Nat} {R C : Nat}
theorem written_block_eval (B : OKB T R C) (hR : R ≤ 20) : f_written_block cs [blkD cs T R C] = some (.ok (.str (JTx (rowsN T R C)))) := by
  have F : Fits T R C := ⟨B.hR, B.hR8, B.hC, B.things⟩
  have X := rows_X F hR
  have hf : oFld (cs 0) "rows" (blkD cs T R C) = some (.tup (rowsL T R C)) := fld_rows
  rw [rows_txs] at hf
  have jn := join_nl false X.len X.wide
  have jn : oJoin (tx [10]) (.lst (txs (rowsN T R C))) = some (.str (JTx (rowsN T R C))) := jn
  have hl : oList [.tup (txs (rowsN T R C))] = some (.lst (txs (rowsN T R C))) := rfl
  generalize blkD cs T R C = b at *
  unfold f_written_block
  apply fn0_of
  have e : m_written_block cs 0 (startD 1 [b]) = some (.rt (.str (JTx (rowsN T R C))), 0, [some b]) := by
    unfold m_written_block
    exact ret_of (mm1_ok (x := tx [10]) (n1 := 0) (by simp [sNl]) (cb_ok (cons_ok (m1_ok (var_ok rfl) hf) nil_ok) hl) jn)
  rw [e]; rfl
theorem one_eval {ns : List Int} {n : Int} (h0 : 0 ≤ n) (h1 : n ≤ 50000) : ∃ n', n ≤ n' ∧ n' ≤ n + 400 ∧ f__law_one cs n [scD ns, .non] = some (.ok (.bl true), n') := by
  have dk : ∀ k : Int, 0 < k → k < 1000000 → divOk k = true := fun k a b => divL ⟨by omega, by omega⟩
  have d6 := dk 6 (by decide) (by decide)
  have d5 := dk 5 (by decide) (by decide)
  have d13 := dk 13 (by decide) (by decide)
  obtain ⟨v, hv, v0, v1⟩ := next_eval (cs := cs) (ns := ns) h0 (show n ≤ 1000000 by omega)
  obtain ⟨many, hm, hm0, hm6⟩ : ∃ k : Nat, 1 + v % 6 = (k : Int) ∧ 0 < k ∧ k ≤ 6 := ⟨(1 + v % 6).toNat, by omega, by omega, by omega⟩
  obtain ⟨S, ⟨hS, _⟩, eS⟩ := signs_eval (cs := cs) (ns := ns) (n := n + 1) (many := many) (by omega) (by omega) hm0 (by omega)
  obtain ⟨u, hu, u0, u1⟩ := next_eval (cs := cs) (ns := ns) (n := n + 1 + 1) (by omega) (by omega)
  obtain ⟨R, hR, hR0, hR5⟩ : ∃ k : Nat, 1 + u % 5 = (k : Int) ∧ 0 < k ∧ k ≤ 5 := ⟨(1 + u % 5).toNat, by omega, by omega, by omega⟩
  obtain ⟨x, hx, x0, x1⟩ := next_eval (cs := cs) (ns := ns) (n := n + 1 + 1 + 1) (by omega) (by omega)
  obtain ⟨C, hC, hC13⟩ : ∃ k : Nat, x % 13 = (k : Int) ∧ k ≤ 12 := ⟨(x % 13).toNat, by omega, by omega⟩
  obtain ⟨T, n5, B, c1, c2, eT⟩ := columns_eval (cs := cs) (ns := ns) (n := n + 1 + 1 + 1 + 1) (R := R) (C := C) hS (by omega) (by omega) hR0 (by omega) (by omega)
  have F : Fits T R C := ⟨B.hR, B.hR8, B.hC, B.things⟩
  have X := rows_X F (by omega)
  obtain ⟨L, due, eSp, Sp⟩ := spoilt_eval (cs := cs) (ns := ns) (n := n5) F (by omega) (by omega) (by omega) (by omega)
  obtain ⟨n7, k1, k2, eL⟩ := laying_eval (cs := cs) (ns := ns) (n := n5 + 1) hS (by omega) (by omega)
  have bi := block_eval (cs := cs) B
  have wb := written_block_eval (cs := cs) B (by omega)
  have rr := read_rows (cs := cs) B (by omega)
  have to1 := told_ok (cs := cs) (b := false) rr
  have hf : oFld (cs 0) "rows" (blkD cs T R C) = some (.tup (rowsL T R C)) := fld_rows
  have his : oIsC (cs 0) (blkD cs T R C) = some (.bl true) := ov_isC
  have to2 : f__law_told cs [.str (JTx L), .bl false] = some (.ok due) := by
    rcases Sp.due with ⟨k, e, h⟩ | ⟨e, h⟩
    · exact told_ex (b := false) h (.inl ⟨rfl, (k : Int), rfl, e⟩)
    · exact told_ex (b := false) h (.inr ⟨rfl, rfl, e⟩)
  have sm2 : f__law_same cs 4 [due, due] = some (.ok (.bl true)) := by
    rcases Sp.due with ⟨k, e, _⟩ | ⟨e, _⟩
    · rw [e]; exact same_refl1 "text" _ 2 (same_int 2 _)
    · rw [e]; exact same_refl1 "block" _ 2 (same_int 2 _)
  have sm3 : f__law_same cs 4 [.tup (rowsL T R C), .tup (rowsL T R C)] = some (.ok (.bl true)) := by
    rw [rows_txs]
    exact same_strs (cs := cs) 2 true (by have := X.len; omega)
  have jn := join_nl false Sp.X.len Sp.X.wide
  have jn : oJoin (tx [10]) (.lst (txs L)) = some (.str (JTx L)) := jn
  have jn0 := join_nl false X.len X.wide
  have jn0 : oJoin (tx [10]) (.lst (txs (rowsN T R C))) = some (.str (JTx (rowsN T R C))) := jn0
  rw [← rows_txs] at jn0
  have htu : oTuple [.lst (rowsL T R C)] = some (.tup (rowsL T R C)) := rfl
  have nlc : ∀ n ds, mC (.str "\n") n ds = some (.ok (.str (tx [10])), n) := fun n ds => by simp [sNl]
  generalize blkD cs T R C = b at *
  generalize JTx (rowsN T R C) = txt at *
  generalize JTx L = txt2 at *
  let st : Option D → Option D → Option D → Option D → Option D → Option D → Option D → Option D → DS := fun x2 x3 x4 x5 x6 x7 x8 x9 => [some (scD ns), none, x2, x3, x4, x5, x6, x7, x8, x9]
  let z2 := some (D.str (tx S))
  let z3 := some (D.int (R : Int))
  let z4 := some (D.lst (rowsL T R C))
  let z5 := some (D.str txt)
  let z7 := some (D.lst (txs L))
  let z8 := some due
  let z9 := some (told2 "read" b)
  refine ⟨n7, by omega, by omega, ?_⟩
  unfold f__law_one fnC
  have e0 : (startD 10 [scD ns, .non]).set 1 none = st none none none none none none none none := rfl
  have e : m__law_one cs n (st none none none none none none none none) = some (.rt (.bl true), n7, st z2 z3 z4 z5 z5 z7 z8 z9) := by
    unfold m__law_one
    refine seq_nx (n1 := n + 1 + 1) (ds1 := st z2 none none none none none none none) ((set_of (callC_ok (cons_ok (var_ok rfl) (cons_ok rfl (cons_ok (n2 := n + 1) (d := .int (many : Int)) ?_ nil_ok))) eS)).trans rfl)
      (seq_nx (n1 := n + 1 + 1 + 1) (ds1 := st z2 z3 none none none none none none) ?_
      (seq_nx (n1 := n5) (ds1 := st z2 z3 z4 none none none none none) ((set_of (callC_ok (cons_ok (var_ok rfl) (cons_ok rfl (cons_ok (var_ok rfl) (cons_ok (var_ok rfl) (cons_ok (n2 := n + 1 + 1 + 1 + 1) (d := .int (C : Int)) ?_ nil_ok))))) eT)).trans rfl)
      (seq_nx (n1 := n5) (ds1 := st z2 z3 z4 z5 none none none none) ((set_of (mm1_ok (nlc _ _) (var_ok rfl) jn0)).trans rfl)
      (seq_nx (n1 := n5) (ds1 := st z2 z3 z4 z5 z5 none none none) ((set_of (call_ok (cons_ok (call_ok (cons_ok (var_ok rfl) nil_ok) bi) nil_ok) wb)).trans rfl)
      (seq_nx (n1 := n5) (ds1 := st z2 z3 z4 z5 z5 none none none) (if_f (n1 := n5) (or_f (n1 := n5) ?_ ?_) rfl)
      (seq_nx (n1 := n5 + 1) (ds1 := st z2 z3 z4 z5 z5 z7 z8 none) ?_
      (seq_nx (n1 := n5 + 1) (ds1 := st z2 z3 z4 z5 z5 z7 z8 none) (if_f (n1 := n5 + 1) (test_no (call_ok (cons_ok (call_ok (cons_ok (mm1_ok (nlc _ _) (var_ok rfl) jn) (cons_ok rfl nil_ok)) to2) (cons_ok (var_ok rfl) nil_ok)) sm2)) rfl)
      (seq_nx (n1 := n5 + 1) (ds1 := st z2 z3 z4 z5 z5 z7 z8 z9) ((set_of (call_ok (cons_ok (var_ok rfl) (cons_ok rfl nil_ok)) to1)).trans rfl)
      (seq_nx (n1 := n5 + 1) (ds1 := st z2 z3 z4 z5 z5 z7 z8 z9) (if_f (n1 := n5 + 1) (or_f (n1 := n5 + 1) ?_ (or_f (n1 := n5 + 1) ?_ (test_no (call_ok (cons_ok (m1_ok (m2_ok (var_ok rfl) rfl rfl) hf) (cons_ok (cb_ok (cons_ok (var_ok rfl) nil_ok) htu) nil_ok)) sm3)))) rfl)
      (ret_of (callC_ok (cons_ok (var_ok rfl) (cons_ok rfl (cons_ok (var_ok rfl) nil_ok))) eL)))))))))))
    · simp [st, hv, d6, hm]
    · simp [st, z3, hu, d5, hR]
    · simp [st, hx, d13, hC]
    · simp [st, z5, isT]
    · simp [st, z5]
    · have hc : mCall (f__law_spoilt cs) (mCons (mVar 0) (mCons (mC .non) (mCons (mVar 4) (ret (some []))))) n5 (st z2 z3 z4 z5 z5 none none none) = some (.ok (.tup [.lst (txs L), due]), n5 + 1) := callC_ok (cons_ok (var_ok rfl) (cons_ok rfl (cons_ok (var_ok rfl) nil_ok))) eSp
      simp only [sAsg]
      unfold sE
      rw [hc]
      rfl
    · refine t5 (m2_ok (m2_ok (var_ok rfl) rfl (d := .str "read") rfl) rfl ?_)
      simp
    · exact test_no (m1_ok (m2_ok (var_ok rfl) rfl (d := b) rfl) his)
  rw [e0, e]
  rfl
end K67

namespace K67
open PySem L2 PyProof.Rows GW
theorem law_eval (cs : Nat → Addr) (ns : List Int) : f_law cs [scD ns] = some (.ok (.bl true)) := by
  unfold f_law m_law
  apply fn0_of
  have d16 : divOk 16 = true := divL (by decide)
  obtain ⟨N, hN, hN3⟩ : ∃ N : Nat, 1 + (if (ns.length : Int) / 16 < 2 then (ns.length : Int) / 16 else 2) = (N : Int) ∧ N ≤ 3 := by
    refine ⟨(1 + (if (ns.length : Int) / 16 < 2 then (ns.length : Int) / 16 else 2)).toNat, ?_, ?_⟩ <;> split <;> omega
  obtain ⟨n', ds', hb, _⟩ := forR_inv (tg := .one 2) (body := b_law_1 cs) (N := N) (n := 0) (ds := [some (scD ns), none, none])
    (fun i n ds => 0 ≤ n ∧ n ≤ 400 * (i : Int) ∧ ∃ x2, ds = [some (scD ns), none, x2])
    (fun i n ds hi ⟨h0, h1, x2, hd⟩ => by
      subst hd
      obtain ⟨n4, r1, r2, r3⟩ := one_eval (cs := cs) (ns := ns) (n := n) (by omega) (by omega)
      refine ⟨[some (scD ns), none, some (.int (i : Int))], rfl, n4, [some (scD ns), none, some (.int (i : Int))], ?_, by omega, by omega, _, rfl⟩
      unfold b_law_1
      simp [r3]) ⟨by decide, by decide, none, rfl⟩
  refine newCell_rt (by show 1 < 3; decide) (n' := n') (ds' := ds') ?_
  show sSeq _ _ 0 [some (scD ns), none, none] = _
  have hr : r62 (N : Int) = true := r62_nat (by omega)
  refine seq_nx (for_of (n1 := 0) (as := rngD 0 N) ?_ hb) (by simp)
  have hl : oLen [scD ns] = some (.int (ns.length : Int)) := by simp
  simp [hl, d16, hN, hr]
end K67

namespace K67
open PySem L2 PyProof.Rows GW
def d_is_sign : He.DefD := ⟨("is_sign", none), "is_sign", "is_sign", defArgs s_is_sign, defBody s_is_sign, defScope s_is_sign, [], []⟩
def d_things_fit : He.DefD := ⟨("things_fit", none), "things_fit", "things_fit", defArgs s_things_fit, defBody s_things_fit, defScope s_things_fit, [], []⟩
def d_has_sign_at : He.DefD := ⟨("has_sign_at", none), "has_sign_at", "has_sign_at", defArgs s_has_sign_at, defBody s_has_sign_at, defScope s_has_sign_at, [], []⟩
def d_Block_init : He.DefD := ⟨("Block", (some "__init__")), "__init__", "Block.__init__", defArgs s_Block_init, defBody s_Block_init, defScope s_Block_init, [], []⟩
def d_written_block : He.DefD := ⟨("written_block", none), "written_block", "written_block", defArgs s_written_block, defBody s_written_block, defScope s_written_block, [], []⟩
def d_written_laying : He.DefD := ⟨("written_laying", none), "written_laying", "written_laying", defArgs s_written_laying, defBody s_written_laying, defScope s_written_laying, [], []⟩
def d_is_line : He.DefD := ⟨("is_line", none), "is_line", "is_line", defArgs s_is_line, defBody s_is_line, defScope s_is_line, [], []⟩
def d_read_block : He.DefD := ⟨("read_block", none), "read_block", "read_block", defArgs s_read_block, defBody s_read_block, defScope s_read_block, [], []⟩
def d_read_laying : He.DefD := ⟨("read_laying", none), "read_laying", "read_laying", defArgs s_read_laying, defBody s_read_laying, defScope s_read_laying, [], []⟩
def d__law_next : He.DefD := ⟨("_law_next", none), "_law_next", "_law_next", defArgs s__law_next, defBody s__law_next, defScope s__law_next, [], []⟩
def d__law_signs : He.DefD := ⟨("_law_signs", none), "_law_signs", "_law_signs", defArgs s__law_signs, defBody s__law_signs, defScope s__law_signs, [], []⟩
def d__law_row : He.DefD := ⟨("_law_row", none), "_law_row", "_law_row", defArgs s__law_row, defBody s__law_row, defScope s__law_row, [], []⟩
def d__law_same : He.DefD := ⟨("_law_same", none), "_law_same", "_law_same", defArgs s__law_same, defBody s__law_same, defScope s__law_same, [], []⟩
def d__law_columns : He.DefD := ⟨("_law_columns", none), "_law_columns", "_law_columns", defArgs s__law_columns, defBody s__law_columns, defScope s__law_columns, [], []⟩
def d__law_told : He.DefD := ⟨("_law_told", none), "_law_told", "_law_told", defArgs s__law_told, defBody s__law_told, defScope s__law_told, [], []⟩
def d__law_spoilt : He.DefD := ⟨("_law_spoilt", none), "_law_spoilt", "_law_spoilt", defArgs s__law_spoilt, defBody s__law_spoilt, defScope s__law_spoilt, [], []⟩
def d__law_laying : He.DefD := ⟨("_law_laying", none), "_law_laying", "_law_laying", defArgs s__law_laying, defBody s__law_laying, defScope s__law_laying, [], []⟩
def d__law_one : He.DefD := ⟨("_law_one", none), "_law_one", "_law_one", defArgs s__law_one, defBody s__law_one, defScope s__law_one, [], []⟩
def d_law : He.DefD := ⟨("law", none), "law", "law", defArgs s_law, defBody s_law, defScope s_law, [], []⟩
def d_NoText_init : He.DefD := ⟨("NoText", (some "__init__")), "__init__", "NoText.__init__", defArgs s_NoText_init, defBody s_NoText_init, defScope s_NoText_init, [], []⟩
def fn : List He.DefD := [d_is_sign, d_things_fit, d_has_sign_at, d_Block_init, d_written_block, d_written_laying, d_is_line, d_read_block, d_read_laying, d__law_next, d__law_signs, d__law_row, d__law_same, d__law_columns, d__law_told, d__law_spoilt, d__law_laying, d__law_one, d_law, d_NoText_init]
def fb : List (PySem.W.Frag → Bool) := [efB exs, fun K => oexB K (ec K 11), fun K => insB K (He.ga K "Block")]
def fa : List He.Fa := [.glo "is_sign", .glo "things_fit", .glo "has_sign_at", .glo "written_block", .glo "written_laying", .glo "is_line", .glo "read_block", .glo "read_laying", .glo "_law_next", .glo "_law_signs", .glo "_law_row", .glo "_law_same", .glo "_law_columns", .glo "_law_told", .glo "_law_spoilt", .glo "_law_laying", .glo "_law_one", .glo "law", .free "ValueError", .free "all", .free "bool", .free "dict", .free "enumerate", .free "int", .free "isinstance", .free "len", .free "list", .free "max", .free "min", .free "ord", .free "range", .free "str", .free "tuple", .free "zip", .glo "Block", .cls "Block", .mkr "Block", .noat "Block" "rows", .glo "WeaveError", .glo "NoPrices", .glo "NoBlock", .glo "NoSign", .glo "NoNote", .glo "NoText", .exc "NoBlock", .str "GAP" "-"]
def csK (K : PySem.W.Frag) : Nat → Addr := fun i => if i = 0 then He.ga K "Block" else 0
abbrev R : PySem.W.OpenRow := PySem.W.OpenLaw.row PySem.Challenge.rw_gapweave_k67_blocks_written
abbrev hk : PySem.W.Hook := hookX 6 fa fn fb
def ob (s : PySem.W.SharedT) : AlX := obsXG 6 fa fn fb (HandSHeadRun.getT s)
theorem ob_eq (s : PySem.W.SharedT) : ob s = hk.obs s.abs := obsXG_eq (HandSHeadRun.getT_eq s)
theorem run (w : World) : HandSHeadRun.RunEq R (PySem.W.view R.prog [30]) hk ob 9000 ("__name__" :: "WeaveError" :: "NoPrices" :: "NoBlock" :: "NoSign" :: "NoNote" :: "NoText" :: "is_sign" :: "GAP" :: "things_fit" :: "has_sign_at" :: "Block" :: "written_block" :: "written_laying" :: "is_line" :: "read_block" :: "read_laying" :: "_law_next" :: "_law_signs" :: "_law_row" :: "_law_same" :: "_law_columns" :: "_law_told" :: "_law_spoilt" :: "_law_laying" :: "_law_one" :: []) w := by
  intro os
  kernel_rfl
theorem facts {P : Program} {w : World} {K : PySem.W.Frag} {h : Heap} {mg : Str → Option Value} {f : Addr} (X : K.In h) (G : h.Ns mainGlobals mg) (hfa : mg ("law" : Str) = some (.ref f)) (cx : SaysX fa fn fb K) :
    ∃ fd : FuncData, (∀ (s : Shared) (v : Value), BindsTo s fd ⟨[v], []⟩ [("_law_script", v)]) ∧ ∀ base : Heap, K.In base → base.Ns mainGlobals mg → FnOk P w K mg base CX0 10 f fd ["_law_script"] (fun vs H Q _ => spM K none 1 0 (pureF (f_law (csK K))) vs H Q (fun _ _ _ => False)) := by
  have c := cx.d
  obtain ⟨fd_NoText_init, F_NoText_init⟩ := c.def_ 19 (d := d_NoText_init) rfl
  obtain ⟨fd_is_sign, F_is_sign⟩ := c.def_ 0 (d := d_is_sign) rfl
  obtain ⟨fd_things_fit, F_things_fit⟩ := c.def_ 1 (d := d_things_fit) rfl
  obtain ⟨fd_has_sign_at, F_has_sign_at⟩ := c.def_ 2 (d := d_has_sign_at) rfl
  obtain ⟨fd_Block_init, F_Block_init⟩ := c.def_ 3 (d := d_Block_init) rfl
  obtain ⟨fd_written_block, F_written_block⟩ := c.def_ 4 (d := d_written_block) rfl
  obtain ⟨fd_written_laying, F_written_laying⟩ := c.def_ 5 (d := d_written_laying) rfl
  obtain ⟨fd_is_line, F_is_line⟩ := c.def_ 6 (d := d_is_line) rfl
  obtain ⟨fd_read_block, F_read_block⟩ := c.def_ 7 (d := d_read_block) rfl
  obtain ⟨fd_read_laying, F_read_laying⟩ := c.def_ 8 (d := d_read_laying) rfl
  obtain ⟨fd__law_next, F__law_next⟩ := c.def_ 9 (d := d__law_next) rfl
  obtain ⟨fd__law_signs, F__law_signs⟩ := c.def_ 10 (d := d__law_signs) rfl
  obtain ⟨fd__law_row, F__law_row⟩ := c.def_ 11 (d := d__law_row) rfl
  obtain ⟨fd__law_same, F__law_same⟩ := c.def_ 12 (d := d__law_same) rfl
  obtain ⟨fd__law_columns, F__law_columns⟩ := c.def_ 13 (d := d__law_columns) rfl
  obtain ⟨fd__law_told, F__law_told⟩ := c.def_ 14 (d := d__law_told) rfl
  obtain ⟨fd__law_spoilt, F__law_spoilt⟩ := c.def_ 15 (d := d__law_spoilt) rfl
  obtain ⟨fd__law_laying, F__law_laying⟩ := c.def_ 16 (d := d__law_laying) rfl
  obtain ⟨fd__law_one, F__law_one⟩ := c.def_ 17 (d := d__law_one) rfl
  obtain ⟨fd_law, F_law⟩ := c.def_ 18 (d := d_law) rfl
  have e := hfa.symm.trans (He.glo_ok X G (c.fact 17 (f := .glo "law") rfl))
  cases e
  have b := FunD.bindsA (ps := ["_law_script"]) F_law fun _ _ _ _ _ _ us hl => match us, hl with | [_], _ => rfl
  have bl : BF mg := ⟨He.free_ok X G (c.fact 18 (f := .free "ValueError") rfl), He.free_ok X G (c.fact 19 (f := .free "all") rfl), He.free_ok X G (c.fact 20 (f := .free "bool") rfl), He.free_ok X G (c.fact 21 (f := .free "dict") rfl), He.free_ok X G (c.fact 22 (f := .free "enumerate") rfl), He.free_ok X G (c.fact 23 (f := .free "int") rfl), He.free_ok X G (c.fact 24 (f := .free "isinstance") rfl), He.free_ok X G (c.fact 25 (f := .free "len") rfl), He.free_ok X G (c.fact 26 (f := .free "list") rfl), He.free_ok X G (c.fact 27 (f := .free "max") rfl), He.free_ok X G (c.fact 28 (f := .free "min") rfl), He.free_ok X G (c.fact 29 (f := .free "ord") rfl), He.free_ok X G (c.fact 30 (f := .free "range") rfl), He.free_ok X G (c.fact 31 (f := .free "str") rfl), He.free_ok X G (c.fact 32 (f := .free "tuple") rfl), He.free_ok X G (c.fact 33 (f := .free "zip") rfl)⟩
  refine ⟨fd_law, fun s v => b s [v] rfl, fun base _ _ => ?_⟩
  have c_Block : CF_Block K (csK K 0) := ⟨He.cls_ok (c.fact 35 (f := .cls "Block") rfl), He.noat_ok (c.fact 37 (f := .noat "Block" "rows") rfl), insB_ok (He.cls_ok (c.fact 35 (f := .cls "Block") rfl)) (cx.own 2 rfl)⟩
  have g_Block : mg "Block" = some (.ref (csK K 0)) := He.glo_ok X G (c.fact 34 (f := .glo "Block") rfl)
  have ef : EFs K exs := efB_ok (cx.own 0 rfl)
  have xf : XF P w K mg base := ⟨ef, He.glo_ok X G (c.fact 38 (f := .glo "WeaveError") rfl), He.glo_ok X G (c.fact 39 (f := .glo "NoPrices") rfl), He.glo_ok X G (c.fact 40 (f := .glo "NoBlock") rfl), He.glo_ok X G (c.fact 41 (f := .glo "NoSign") rfl), He.glo_ok X G (c.fact 42 (f := .glo "NoNote") rfl), He.glo_ok X G (c.fact 43 (f := .glo "NoText") rfl), eown_ok X G (ef.ex 5 (by decide)) (c.fact 40 (f := .glo "NoBlock") rfl) (c.fact 44 (f := .exc "NoBlock") rfl), emk_ok X G (ef.ex 11 (by decide)) (c.fact 43 (f := .glo "NoText") rfl) (cx.own 1 rfl) (fun T => ok_NoText_init F_NoText_init T (ef.no 11 (by decide) "line" (by decide))), He.str_ok X G (c.fact 45 (f := .str "GAP" "-") rfl)⟩
  have A_is_sign := ok_is_sign (P := P) (w := w) (base := base) (cs := csK K) F_is_sign (He.glo_ok X G (c.fact 0 (f := .glo "is_sign") rfl)) bl xf  
  have A_things_fit := ok_things_fit (P := P) (w := w) (base := base) (cs := csK K) F_things_fit (He.glo_ok X G (c.fact 1 (f := .glo "things_fit") rfl)) bl xf A_is_sign 
  have A_has_sign_at := ok_has_sign_at (P := P) (w := w) (base := base) (cs := csK K) F_has_sign_at (He.glo_ok X G (c.fact 2 (f := .glo "has_sign_at") rfl)) bl xf  
  have A_Block_init := ok_Block_init (P := P) (w := w) (base := base) (cs := csK K) F_Block_init (He.glo_ok X G (c.fact 34 (f := .glo "Block") rfl)) (He.mkr_ok (c.fact 36 (f := .mkr "Block") rfl)) bl xf A_has_sign_at A_things_fit c_Block
  have A_written_block := ok_written_block (P := P) (w := w) (base := base) (cs := csK K) F_written_block (He.glo_ok X G (c.fact 3 (f := .glo "written_block") rfl)) bl xf  c_Block
  have A_written_laying := ok_written_laying (P := P) (w := w) (base := base) (cs := csK K) F_written_laying (He.glo_ok X G (c.fact 4 (f := .glo "written_laying") rfl)) bl xf  
  have A_is_line := ok_is_line (P := P) (w := w) (base := base) (cs := csK K) F_is_line (He.glo_ok X G (c.fact 5 (f := .glo "is_line") rfl)) bl xf A_is_sign 
  have A_read_block := ok_read_block (P := P) (w := w) (base := base) (cs := csK K) F_read_block (He.glo_ok X G (c.fact 6 (f := .glo "read_block") rfl)) bl xf A_Block_init A_is_line 
  have A_read_laying := ok_read_laying (P := P) (w := w) (base := base) (cs := csK K) F_read_laying (He.glo_ok X G (c.fact 7 (f := .glo "read_laying") rfl)) bl xf A_read_block c_Block
  have A__law_next := ok__law_next (P := P) (w := w) (base := base) (cs := csK K) F__law_next (He.glo_ok X G (c.fact 8 (f := .glo "_law_next") rfl)) bl xf  
  have A__law_signs := ok__law_signs (P := P) (w := w) (base := base) (cs := csK K) F__law_signs (He.glo_ok X G (c.fact 9 (f := .glo "_law_signs") rfl)) bl xf A__law_next 
  have A__law_row := ok__law_row (P := P) (w := w) (base := base) (cs := csK K) F__law_row (He.glo_ok X G (c.fact 10 (f := .glo "_law_row") rfl)) bl xf A__law_next 
  have A__law_same := ok__law_same (P := P) (w := w) (base := base) (cs := csK K) F__law_same (He.glo_ok X G (c.fact 11 (f := .glo "_law_same") rfl)) bl xf   4
  have A__law_columns := ok__law_columns (P := P) (w := w) (base := base) (cs := csK K) F__law_columns (He.glo_ok X G (c.fact 12 (f := .glo "_law_columns") rfl)) bl xf A__law_next 
  have A__law_told := ok__law_told (P := P) (w := w) (base := base) (cs := csK K) F__law_told (He.glo_ok X G (c.fact 13 (f := .glo "_law_told") rfl)) bl xf A_read_block A_read_laying 
  have A__law_spoilt := ok__law_spoilt (P := P) (w := w) (base := base) (cs := csK K) F__law_spoilt (He.glo_ok X G (c.fact 14 (f := .glo "_law_spoilt") rfl)) bl xf A__law_next 
  have A__law_laying := ok__law_laying (P := P) (w := w) (base := base) (cs := csK K) F__law_laying (He.glo_ok X G (c.fact 15 (f := .glo "_law_laying") rfl)) bl xf A__law_next A__law_same A__law_spoilt A__law_told A_written_laying 
  have A__law_one := ok__law_one (P := P) (w := w) (base := base) (cs := csK K) F__law_one (He.glo_ok X G (c.fact 16 (f := .glo "_law_one") rfl)) bl xf A_Block_init A__law_columns A__law_laying A__law_next A__law_same A__law_signs A__law_spoilt A__law_told A_written_block c_Block g_Block
  exact fn_law (fk_law (P := P) (w := w) (base := base) (cs := csK K) F_law (He.glo_ok X G (c.fact 17 (f := .glo "law") rfl)) bl xf A__law_one )
end K67
open PySem PySem.W PySem.Calls PyProof.Rows
theorem PySem.Challenge.cw_gapweave_k67_blocks_written_holds : PySem.Challenge.rw_gapweave_k67_blocks_written.Holds := by
  w_on; o_law
  refine HandSHeadRun.head_any (r := OpenLaw.row PySem.Challenge.rw_gapweave_k67_blocks_written) (q := view (OpenLaw.row PySem.Challenge.rw_gapweave_k67_blocks_written).prog [30]) (H := K67.hk) (ob := K67.ob) (M := 9000) (loose := ("__name__" :: "WeaveError" :: "NoPrices" :: "NoBlock" :: "NoSign" :: "NoNote" :: "NoText" :: "is_sign" :: "GAP" :: "things_fit" :: "has_sign_at" :: "Block" :: "written_block" :: "written_laying" :: "is_line" :: "read_block" :: "read_laying" :: "_law_next" :: "_law_signs" :: "_law_row" :: "_law_same" :: "_law_columns" :: "_law_told" :: "_law_spoilt" :: "_law_laying" :: "_law_one" :: [])) (d := HandSHeadRun.topDef (OpenLaw.row PySem.Challenge.rw_gapweave_k67_blocks_written).prog 30) (kwd := []) K67.ob_eq
    (by kernel_rfl) (fun s => by kernel_rfl) K67.run (by kernel_rfl) (by kernel_rfl) (by kernel_rfl) (by rfl) (by first | assumption | decide +kernel) (by decide +kernel) ⟨rfl, rfl, rfl, rfl, rfl, by decide +kernel⟩ ?hw ?hc
  case hw => w_witness2
  case hc =>
    refine L2.walk_ofE (l := PySem.Challenge.rw_gapweave_k67_blocks_written) (n := 63) (k := 10) (x := "_law_script") (CX := L2.CX0) rfl (by decide) (by kernel_rfl) ⟨rfl, by decide, by decide⟩ ?F (fun _ _ _ _ z => z)
    intro w mg fa h Y G hmg0
    obtain ⟨K, KX, c⟩ := Y
    have hmg : mg ("law" : PySem.Str) = some (.ref fa) := by
      have e : (HandSHeadRun.topDef (OpenLaw.row PySem.Challenge.rw_gapweave_k67_blocks_written).prog 30).name = ("law" : PySem.Str) := by kernel_rfl
      rw [← e]
      exact hmg0
    obtain ⟨fd, hb, hF⟩ := K67.facts (P := (PySem.Challenge.rw_gapweave_k67_blocks_written).prog) (w := w) KX G hmg c
    exact ⟨K, fd, fun vs H Q _ => GW.spM K none 1 0 (GW.pureF (K67.f_law (K67.csK K))) vs H Q (fun _ _ _ => False), KX, hb, fun H a ns hl _ hS => GW.law_call (K67.law_eval _ ns) hS, hF⟩
