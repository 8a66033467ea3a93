import PyProof.Rows.All
import Wide.All
import OpenK.AllK
import Wide.FinOn
import HandS.ForMost
import HandS.ForExc
import HandS.Deep
import HandS.Wide
import HandS.CallSlots
import KE.GoesRaise
import HandS.ExcIs
import HandS.IsInst
import PySem.Challenge.RW_readgrove_k81_no_grammars
set_option Elab.async false
set_option linter.all false
set_option maxRecDepth 100000
set_option maxHeartbeats 2000000
/-! Mp1: a small semantics of Python over pure data -/
namespace Mp
open PySem PySem.Spec PyProof.Rows L2

/-- data: tup and lst are frozen (never change); rol: a list that is only read; ref: a thing in the store; exc: a caught exception; fn: a def of the module -/
inductive D where
  | non | bl (b : Bool) | int (i : Int) | str (s : Str) | tup (xs : List D) | lst (xs : List D) | rol (xs : List D) | ref (n : Nat) | exc (c : Str) | fn (x : Str)

/-- what stands in the store -/
inductive Ob where
  | lst (xs : List D) | dead
abbrev Sto := List Ob
abbrev Fr := List (Option D)

inductive R (α : Type) where
  | ok (a : α) (μ : Sto) | er (c : Str) (μ : Sto) | no
namespace R
def bind {α β : Type} : R α → (α → Sto → R β) → R β
  | .ok a μ, k => k a μ
  | .er c μ, _ => .er c μ
  | .no, _ => .no
@[simp] theorem bind_ok {α β : Type} (a : α) (μ : Sto) (k : α → Sto → R β) : (R.ok a μ).bind k = k a μ := rfl
@[simp] theorem bind_er {α β : Type} (c : Str) (μ : Sto) (k : α → Sto → R β) : (R.er c μ : R α).bind k = .er c μ := rfl
@[simp] theorem bind_no {α β : Type} (k : α → Sto → R β) : (R.no : R α).bind k = .no := rfl
end R

/-- a statement's end -/
inductive SR where
  | nx (φ : Fr) (μ : Sto) | rt (d : D) (μ : Sto) | bk (φ : Fr) (μ : Sto) | ct (φ : Fr) (μ : Sto) | er (c : Str) (φ : Fr) (μ : Sto) | no
/-- go on behind an expression -/
def R.then {α : Type} (r : R α) (φ : Fr) (k : α → Sto → SR) : SR := match r with
  | .ok a μ => k a μ
  | .er c μ => .er c φ μ
  | .no => .no
@[simp] theorem R.then_ok {α : Type} (a : α) (μ : Sto) (φ : Fr) (k : α → Sto → SR) : (R.ok a μ).then φ k = k a μ := rfl
@[simp] theorem R.then_er {α : Type} (c : Str) (μ : Sto) (φ : Fr) (k : α → Sto → SR) : (R.er c μ : R α).then φ k = .er c φ μ := rfl
@[simp] theorem R.then_no {α : Type} (φ : Fr) (k : α → Sto → SR) : (R.no : R α).then φ k = .no := rfl
/-- go on behind a statement -/
def SR.seq (r : SR) (k : Fr → Sto → SR) : SR := match r with
  | .nx φ μ => k φ μ
  | r => r
@[simp] theorem SR.seq_nx (φ : Fr) (μ : Sto) (k : Fr → Sto → SR) : (SR.nx φ μ).seq k = k φ μ := rfl
@[simp] theorem SR.seq_rt (d : D) (μ : Sto) (k : Fr → Sto → SR) : (SR.rt d μ).seq k = .rt d μ := rfl
@[simp] theorem SR.seq_bk (φ : Fr) (μ : Sto) (k : Fr → Sto → SR) : (SR.bk φ μ).seq k = .bk φ μ := rfl
@[simp] theorem SR.seq_ct (φ : Fr) (μ : Sto) (k : Fr → Sto → SR) : (SR.ct φ μ).seq k = .ct φ μ := rfl
@[simp] theorem SR.seq_er (c : Str) (φ : Fr) (μ : Sto) (k : Fr → Sto → SR) : (SR.er c φ μ).seq k = .er c φ μ := rfl
@[simp] theorem SR.seq_no (k : Fr → Sto → SR) : (SR.no).seq k = .no := rfl

abbrev EM := Fr → Sto → R D
abbrev AM := Fr → Sto → R (List D)
abbrev TM := Fr → Sto → R Bool
abbrev SM := Fr → Sto → SR
abbrev FM := List D → Sto → R D

def cap : Nat := 1000000
theorem cap_size : cap ≤ sizeLine := by rw [sizeLine_eq]; decide

/-! ### expressions -/
def Fr.get (φ : Fr) (i : Nat) : Option D := (φ[i]?).join
def eVar (i : Nat) : EM := fun φ μ => match φ[i]? with
  | some (some d) => .ok d μ
  | _ => .no
def eC (d : D) : EM := fun _ μ => .ok d μ
/-- two-place, one-place operations by values -/
abbrev F2 := D → D → Sto → R D
abbrev F1 := D → Sto → R D
def eBin (f : F2) (a b : EM) : EM := fun φ μ => (a φ μ).bind fun x μ1 => (b φ μ1).bind fun y μ2 => f x y μ2
def eUn (f : F1) (a : EM) : EM := fun φ μ => (a φ μ).bind fun x μ1 => f x μ1
def aNil : AM := fun _ μ => .ok [] μ
def aCons (a : EM) (as : AM) : AM := fun φ μ => (a φ μ).bind fun x μ1 => (as φ μ1).bind fun xs μ2 => .ok (x :: xs) μ2
def eTup (as : AM) : EM := fun φ μ => (as φ μ).bind fun xs μ1 => .ok (.tup xs) μ1
def eLst (as : AM) : EM := fun φ μ => (as φ μ).bind fun xs μ1 => .ok (.lst xs) μ1
/-- a list display that will change -/
def eNew (as : AM) : EM := fun φ μ => (as φ μ).bind fun xs μ1 => .ok (.ref μ1.length) (μ1 ++ [.lst xs])
def eFn (f : List D → Sto → R D) (as : AM) : EM := fun φ μ => (as φ μ).bind fun xs μ1 => f xs μ1
def eIf (c : TM) (a b : EM) : EM := fun φ μ => (c φ μ).bind fun t μ1 => if t = true then a φ μ1 else b φ μ1
def eAnd (a b : EM) : EM := fun φ μ => (a φ μ).bind fun x μ1 => match x with
  | .bl true => b φ μ1
  | .bl false => .ok (.bl false) μ1
  | _ => .no
def eOr (a b : EM) : EM := fun φ μ => (a φ μ).bind fun x μ1 => match x with
  | .bl true => .ok (.bl true) μ1
  | .bl false => b φ μ1
  | _ => .no
def eNot (a : EM) : EM := fun φ μ => (a φ μ).bind fun x μ1 => match x with
  | .bl b => .ok (.bl !b) μ1
  | _ => .no
/-! ### tests -/
def tVal (a : EM) : TM := fun φ μ => (a φ μ).bind fun x μ1 => match x with
  | .bl b => .ok b μ1
  | _ => .no
def tAnd (a b : TM) : TM := fun φ μ => (a φ μ).bind fun t μ1 => if t = true then b φ μ1 else .ok false μ1
def tOr (a b : TM) : TM := fun φ μ => (a φ μ).bind fun t μ1 => if t = true then .ok true μ1 else b φ μ1
def tNot (a : TM) : TM := fun φ μ => (a φ μ).bind fun t μ1 => .ok (!t) μ1

/-! ### statements -/
def sNext : SM := fun φ μ => .nx φ μ
def sSeq (a b : SM) : SM := fun φ μ => (a φ μ).seq b
def sSet (i : Nat) (a : EM) : SM := fun φ μ => (a φ μ).then φ fun x μ1 => .nx (φ.set i (some x)) μ1
def sRet (a : EM) : SM := fun φ μ => (a φ μ).then φ fun x μ1 => .rt x μ1
def sIf (c : TM) (a b : SM) : SM := fun φ μ => (c φ μ).then φ fun t μ1 => if t = true then a φ μ1 else b φ μ1
def sDrop (a : EM) : SM := fun φ μ => (a φ μ).then φ fun _ μ1 => .nx φ μ1
def sBreak : SM := fun φ μ => .bk φ μ
def sCont : SM := fun φ μ => .ct φ μ
def sRaise (c : Str) : SM := fun φ μ => .er c φ μ
/-- a target takes a value -/
abbrev GM := D → Fr → Sto → Option Fr
def gName (i : Nat) : GM := fun d φ _ => some (φ.set i (some d))
abbrev GsM := List D → Fr → Sto → Option Fr
def gNil : GsM := fun ds φ _ => match ds with
  | [] => some φ
  | _ => none
def gCons (g : GM) (gs : GsM) : GsM := fun ds φ μ => match ds with
  | d :: r => (g d φ μ).bind fun φ' => gs r φ' μ
  | [] => none
def gTup (gs : GsM) : GM := fun d φ μ => match d with
  | .tup ds => gs ds φ μ
  | .lst ds => gs ds φ μ
  | .rol ds => gs ds φ μ
  | _ => none
def sAsg (g : GM) (a : EM) : SM := fun φ μ => (a φ μ).then φ fun x μ1 => match g x φ μ1 with
  | some φ' => .nx φ' μ1
  | none => .no
/-- slots forgotten -/
def wipeF (φ : Fr) : List Nat → Fr
  | [] => φ
  | v :: vs => (wipeF φ vs).set v none
/-- over items that are known ahead -/
def forL (g : GM) (kill : List Nat) (b : SM) : List D → SM
  | [], φ, μ => .nx φ μ
  | d :: r, φ, μ => match g d φ μ with
    | some φ' => match b φ' μ with
      | .nx φ1 μ1 => forL g kill b r (wipeF φ1 kill) μ1
      | .ct φ1 μ1 => forL g kill b r (wipeF φ1 kill) μ1
      | .bk φ1 μ1 => .nx (wipeF φ1 kill) μ1
      | q => q
    | none => .no
/-- what is walked: its items -/
abbrev IM := Fr → Sto → R (List D)
/-- what a list, a tuple, a text holds that stands still -/
def items : D → Option (List D)
  | .tup xs => some xs
  | .lst xs => some xs
  | .rol xs => some xs
  | .str s => some (s.cps.toList.map fun c => .str ⟨#[c]⟩)
  | _ => none
def iOf (a : EM) : IM := fun φ μ => (a φ μ).bind fun x μ1 => match items x with
  | some ds => .ok ds μ1
  | none => .no
def rangeD (lo : Int) (n : Nat) : List D := (List.range n).map fun k => .int (lo + (k : Nat))
def iRange (as : AM) : IM := fun φ μ => (as φ μ).bind fun xs μ1 => match xs with
  | [.int n] => if -(cap : Int) ≤ n ∧ n ≤ (cap : Int) then .ok (rangeD 0 n.toNat) μ1 else .no
  | [.int lo, .int n] => if -(cap : Int) ≤ lo ∧ lo ≤ (cap : Int) ∧ -(cap : Int) ≤ n ∧ n ≤ (cap : Int) then .ok (rangeD lo (n - lo).toNat) μ1 else .no
  | _ => .no
def sFor (im : IM) (g : GM) (kill : List Nat) (b : SM) : SM := fun φ μ => (im φ μ).then φ fun ds μ1 => forL g kill b ds (wipeF φ kill) μ1
/-! ### defs -/
mutual
def D.lo (n : Nat) : D → Bool
  | .ref k => decide (k < n)
  | .tup xs => los n xs
  | .lst xs => los n xs
  | .rol xs => los n xs
  | _ => true
def los (n : Nat) : List D → Bool
  | [] => true
  | d :: r => d.lo n && los n r
end
/-- [elt for target in items if test]: the new list is the n-th thing of the store -/
def compL (g : GM) (kill : List Nat) (t : TM) (e : EM) (φ : Fr) (n : Nat) : List D → Sto → R Unit
  | [], μ => .ok () μ
  | d :: r, μ => match g d (wipeF φ kill) μ with
    | some φ' => (t φ' μ).bind fun c μ1 => if c = true then (e φ' μ1).bind fun x μ2 => match μ2[n]? with
        | some (.lst acc) => if acc.length < cap then compL g kill t e φ n r (μ2.set n (.lst (acc ++ [x]))) else .no
        | _ => .no
      else compL g kill t e φ n r μ1
    | none => .no
def tYes : TM := fun _ μ => .ok true μ
open Classical in
/-- the list that the n-th thing of the store has become, the store as it was -/
noncomputable def compEnd (μ1 : Sto) : R Unit → R D
  | .ok _ μ2 => match μ2[μ1.length]? with
    | some (.lst xs) => if μ2.take μ1.length = μ1 ∧ los μ1.length xs = true then .ok (.lst xs) μ1 else .no
    | _ => .no
  | _ => .no
open Classical in
/-- .. an error may leave it -/
noncomputable def compEndX (μ1 : Sto) : R Unit → R D
  | .er c μ2 => if μ2.take μ1.length = μ1 then .er c μ1 else .no
  | r => compEnd μ1 r
noncomputable def eComp (im : IM) (g : GM) (kill : List Nat) (t : TM) (e : EM) : EM := fun φ μ => (im φ μ).bind fun ds μ1 =>
  compEnd μ1 (compL g kill t e φ μ1.length ds (μ1 ++ [.lst []]))
noncomputable def eCompX (im : IM) (g : GM) (kill : List Nat) (t : TM) (e : EM) : EM := fun φ μ => (im φ μ).bind fun ds μ1 =>
  compEndX μ1 (compL g kill t e φ μ1.length ds (μ1 ++ [.lst []]))
open Classical in
/-- behind a def the store is as it was -/
noncomputable def fin (μ : Sto) (d : D) (μ' : Sto) : R D := if μ'.take μ.length = μ ∧ d.lo μ.length = true then .ok d μ else .no
open Classical in
/-- a def: N slots; what was made in it is forgotten behind it -/
noncomputable def mDef (N : Nat) (b : SM) : FM := fun ds μ => match b (ds.map some ++ List.replicate (N - ds.length) none) μ with
  | .nx _ μ' => fin μ .non μ'
  | .rt d μ' => fin μ d μ'
  | .er c _ μ' => if μ'.take μ.length = μ then .er c μ else .no
  | _ => .no
/-- .. what was made in it stays -/
def mDefR (N : Nat) (b : SM) : FM := fun ds μ => match b (ds.map some ++ List.replicate (N - ds.length) none) μ with
  | .nx _ μ' => .ok .non μ'
  | .rt d μ' => .ok d μ'
  | .er c _ μ' => .er c μ'
  | _ => .no
end Mp

namespace Mp
open PySem PySem.Spec PyProof.Rows L2

/-! ### data in the abstract heap -/
/-- the ghost: where the store's things lie, what is frozen -/
structure Wd where
  α : List Addr
  F : Hp
structure Le (w w' : Wd) : Prop where
  pre : ∃ r, w'.α = w.α ++ r
  fz : ∀ a o, w.F a = some o → w'.F a = some o
theorem Le.refl (w : Wd) : Le w w := ⟨⟨[], by simp⟩, fun _ _ h => h⟩
theorem Le.trans {a b c : Wd} (x : Le a b) (y : Le b c) : Le a c := by
  obtain ⟨r, hr⟩ := x.pre
  obtain ⟨t, ht⟩ := y.pre
  exact ⟨⟨r ++ t, by rw [ht, hr, List.append_assoc]⟩, fun a o h => y.fz a o (x.fz a o h)⟩
theorem Le.at {w w' : Wd} (x : Le w w') {n : Nat} {a : Addr} (h : w.α[n]? = some a) : w'.α[n]? = some a := by
  obtain ⟨r, hr⟩ := x.pre
  rw [hr, List.getElem?_append_left (List.getElem?_eq_some_iff.mp h).1]
  exact h
theorem rd_mono {F F' : Hp} {a : Addr} {u : HO} (e : ∀ a o, F a = some o → F' a = some o) (h : Rd F a u) : Rd F' a u := by
  rcases h with h | ⟨o, h⟩
  · exact Or.inl (e a _ h)
  · exact Or.inr ⟨o, e a _ h⟩
theorem sql_mono {K : PySem.W.Frag} {F F' : Hp} {a : Addr} {xs : List V} (e : ∀ a o, F a = some o → F' a = some o) (h : SqL K F a xs) : SqL K F' a xs := by
  rcases h with h | h
  · exact Or.inl (rd_mono e h)
  · exact Or.inr h
theorem sqt_mono {K : PySem.W.Frag} {F F' : Hp} {a : Addr} {xs : List V} (e : ∀ a o, F a = some o → F' a = some o) (h : SqT K F a xs) : SqT K F' a xs := by
  rcases h with h | h
  · exact Or.inl (rd_mono e h)
  · exact Or.inr h
/-- an exception's object -/
def excP (a C : Addr) : Heap → Prop := fun h => ∃ oe vs, h.get? a = some oe ∧ oe.cls = .ref C ∧ oe.dict = none ∧ oe.data = .fields vs

section
variable (K : PySem.W.Frag) (mg : Str → Option Value) (w : Wd)
mutual
def Rep : D → V → Prop
  | .non, v => v = .non
  | .bl b, v => v = .bl b
  | .int i, v => v = .int i
  | .str s, v => v = .str s
  | .tup ds, v => ∃ a vs, v = .ref a ∧ w.F a = some (.tup vs) ∧ Reps ds vs
  | .lst ds, v => ∃ a vs, v = .ref a ∧ w.F a = some (.lst vs) ∧ Reps ds vs
  | .rol ds, v => ∃ a vs, v = .ref a ∧ SqL K w.F a vs ∧ Reps ds vs
  | .ref n, v => ∃ a, v = .ref a ∧ w.α[n]? = some a
  | .exc c, v => ∃ a C, v = .ref a ∧ mg c = some (.ref C) ∧ w.F a = some (.ext (excP a C))
  | .fn x, v => ∃ f, v = .ref f ∧ mg x = some (.ref f)
def Reps : List D → List V → Prop
  | [], vs => vs = []
  | d :: ds, vs => ∃ v r, vs = v :: r ∧ Rep d v ∧ Reps ds r
end
end
section
variable {K : PySem.W.Frag} {mg : Str → Option Value} {w w' : Wd}
mutual
theorem Rep.mono (l : Le w w') : ∀ {d : D} {v : V}, Rep K mg w d v → Rep K mg w' d v
  | .non, _, h => h
  | .bl _, _, h => h
  | .int _, _, h => h
  | .str _, _, h => h
  | .tup ds, _, ⟨a, vs, e, f, r⟩ => ⟨a, vs, e, l.fz _ _ f, Reps.mono l r⟩
  | .lst ds, _, ⟨a, vs, e, f, r⟩ => ⟨a, vs, e, l.fz _ _ f, Reps.mono l r⟩
  | .rol ds, _, ⟨a, vs, e, f, r⟩ => ⟨a, vs, e, sql_mono l.fz f, Reps.mono l r⟩
  | .ref n, _, ⟨a, e, h⟩ => ⟨a, e, l.at h⟩
  | .exc c, _, ⟨a, C, e, m, f⟩ => ⟨a, C, e, m, l.fz _ _ f⟩
  | .fn _, _, h => h
theorem Reps.mono (l : Le w w') : ∀ {ds : List D} {vs : List V}, Reps K mg w ds vs → Reps K mg w' ds vs
  | [], _, h => h
  | _ :: _, _, ⟨v, r, e, h, t⟩ => ⟨v, r, e, Rep.mono l h, Reps.mono l t⟩
end
theorem Reps.nil : Reps K mg w [] [] := rfl
theorem Reps.cons {d : D} {ds : List D} {v : V} {vs : List V} (h : Rep K mg w d v) (t : Reps K mg w ds vs) : Reps K mg w (d :: ds) (v :: vs) := ⟨v, vs, rfl, h, t⟩
theorem Reps.length : ∀ {ds : List D} {vs : List V}, Reps K mg w ds vs → ds.length = vs.length
  | [], _, h => by cases h; rfl
  | _ :: _, _, ⟨v, r, e, h, t⟩ => by rw [e, List.length_cons, List.length_cons, Reps.length t]
theorem Reps.append : ∀ {ds es : List D} {vs us : List V}, Reps K mg w ds vs → Reps K mg w es us → Reps K mg w (ds ++ es) (vs ++ us)
  | [], _, _, _, h, s => by cases h; exact s
  | _ :: _, _, _, _, ⟨v, r, e, h, t⟩, s => by rw [e]; exact ⟨v, r ++ _, rfl, h, Reps.append t s⟩
theorem Reps.get : ∀ {ds : List D} {vs : List V} {i : Nat} {d : D}, Reps K mg w ds vs → ds[i]? = some d → ∃ v, vs[i]? = some v ∧ Rep K mg w d v
  | [], _, _, _, _, e => by simp at e
  | d :: ds, _, 0, _, ⟨v, r, e, h, t⟩, q => by
    rw [e]
    have q' := Option.some.inj (show some d = _ from q)
    rw [← q']
    exact ⟨v, rfl, h⟩
  | d :: ds, _, i + 1, _, ⟨v, r, e, h, t⟩, q => by
    rw [e]
    obtain ⟨u, hu, hr⟩ := Reps.get (i := i) t (by simpa using q)
    exact ⟨u, by simpa using hu, hr⟩
theorem Reps.getV : ∀ {ds : List D} {vs : List V} {i : Nat} {v : V}, Reps K mg w ds vs → vs[i]? = some v → ∃ d, ds[i]? = some d ∧ Rep K mg w d v
  | [], _, _, _, h, e => by cases h; simp at e
  | d :: ds, _, 0, _, ⟨v, r, e, h, t⟩, q => by
    rw [e] at q
    have q' := Option.some.inj (show some v = _ from q)
    rw [← q']
    exact ⟨d, rfl, h⟩
  | d :: ds, _, i + 1, _, ⟨v, r, e, h, t⟩, q => by
    rw [e] at q
    obtain ⟨u, hu, hr⟩ := Reps.getV (i := i) t (by simpa using q)
    exact ⟨u, by simpa using hu, hr⟩
theorem Reps.take : ∀ {ds : List D} {vs : List V} (n : Nat), Reps K mg w ds vs → Reps K mg w (ds.take n) (vs.take n)
  | _, _, 0, _ => by rw [List.take_zero, List.take_zero]; rfl
  | [], _, _ + 1, h => by cases h; rfl
  | _ :: _, _, n + 1, ⟨v, r, e, h, t⟩ => by rw [e]; exact ⟨v, r.take n, rfl, h, Reps.take n t⟩
theorem Reps.drop : ∀ {ds : List D} {vs : List V} (n : Nat), Reps K mg w ds vs → Reps K mg w (ds.drop n) (vs.drop n)
  | _, _, 0, h => h
  | [], _, _ + 1, h => by cases h; rfl
  | _ :: _, _, n + 1, ⟨v, r, e, h, t⟩ => by rw [e]; exact Reps.drop n t
theorem Reps.set {d : D} {v : V} (hd : Rep K mg w d v) : ∀ {ds : List D} {vs : List V} (n : Nat), Reps K mg w ds vs → Reps K mg w (ds.set n d) (vs.set n v)
  | [], _, _, h => by cases h; rfl
  | _ :: _, _, 0, ⟨u, r, e, h, t⟩ => by rw [e]; exact ⟨v, r, rfl, hd, t⟩
  | _ :: _, _, n + 1, ⟨u, r, e, h, t⟩ => by rw [e]; exact ⟨u, r.set n v, rfl, h, Reps.set hd n t⟩
theorem Reps.reverse : ∀ {ds : List D} {vs : List V}, Reps K mg w ds vs → Reps K mg w ds.reverse vs.reverse
  | [], _, h => by cases h; rfl
  | _ :: _, _, ⟨v, r, e, h, t⟩ => by rw [e, List.reverse_cons, List.reverse_cons]; exact Reps.append (Reps.reverse t) (Reps.cons h Reps.nil)
theorem Reps.ints : ∀ {ns : List Int}, Reps K mg w (ns.map D.int) (ns.map V.int)
  | [] => rfl
  | _ :: _ => ⟨_, _, rfl, rfl, Reps.ints⟩
theorem Reps.strs : ∀ {ns : List Str}, Reps K mg w (ns.map D.str) (ns.map V.str)
  | [] => rfl
  | _ :: _ => ⟨_, _, rfl, rfl, Reps.strs⟩
theorem Reps.ints_eq : ∀ {ns : List Int} {vs : List V}, Reps K mg w (ns.map D.int) vs → vs = ns.map V.int
  | [], _, h => h
  | _ :: _, _, ⟨v, r, e, h, t⟩ => by cases h; rw [e, Reps.ints_eq t]; rfl
theorem Reps.strs_eq : ∀ {ns : List Str} {vs : List V}, Reps K mg w (ns.map D.str) vs → vs = ns.map V.str
  | [], _, h => h
  | _ :: _, _, ⟨v, r, e, h, t⟩ => by cases h; rw [e, Reps.strs_eq t]; rfl
theorem Reps.bls_eq : ∀ {ns : List Bool} {vs : List V}, Reps K mg w (ns.map D.bl) vs → vs = ns.map V.bl
  | [], _, h => h
  | _ :: _, _, ⟨v, r, e, h, t⟩ => by cases h; rw [e, Reps.bls_eq t]; rfl
/-! where no later thing of the store occurs -/
mutual
theorem Rep.cut {n : Nat} {α' : List Addr} (hα : ∀ k, k < n → α'[k]? = w.α[k]?) : ∀ {d : D} {v : V}, d.lo n = true → Rep K mg w d v → Rep K mg ⟨α', w.F⟩ d v
  | .non, _, _, h => h
  | .bl _, _, _, h => h
  | .int _, _, _, h => h
  | .str _, _, _, h => h
  | .tup ds, _, l, ⟨a, vs, e, f, r⟩ => ⟨a, vs, e, f, Reps.cut hα (by simpa [D.lo] using l) r⟩
  | .lst ds, _, l, ⟨a, vs, e, f, r⟩ => ⟨a, vs, e, f, Reps.cut hα (by simpa [D.lo] using l) r⟩
  | .rol ds, _, l, ⟨a, vs, e, f, r⟩ => ⟨a, vs, e, f, Reps.cut hα (by simpa [D.lo] using l) r⟩
  | .ref k, _, l, ⟨a, e, h⟩ => ⟨a, e, (hα k (by simpa [D.lo] using l)).trans h⟩
  | .exc c, _, _, ⟨a, C, e, m, f⟩ => ⟨a, C, e, m, f⟩
  | .fn _, _, _, h => h
theorem Reps.cut {n : Nat} {α' : List Addr} (hα : ∀ k, k < n → α'[k]? = w.α[k]?) : ∀ {ds : List D} {vs : List V}, los n ds = true → Reps K mg w ds vs → Reps K mg ⟨α', w.F⟩ ds vs
  | [], _, _, h => h
  | _ :: _, _, l, ⟨v, r, e, h, t⟩ => by
    have l' := l
    simp only [los, Bool.and_eq_true] at l'
    exact ⟨v, r, e, Rep.cut hα l'.1 h, Reps.cut hα l'.2 t⟩
end
end

/-! ### the store in the abstract heap -/
def ObM (K : PySem.W.Frag) (mg : Str → Option Value) (w : Wd) (H : Hp) (a : Addr) : Ob → Prop
  | .dead => True
  | .lst ds => ∃ vs, H a = some (.lst vs) ∧ w.F a = none ∧ Reps K mg w ds vs
def Ob.live : Ob → Bool
  | .dead => false
  | _ => true
structure Mt (K : PySem.W.Frag) (mg : Str → Option Value) (w : Wd) (H : Hp) (μ : Sto) : Prop where
  len : w.α.length = μ.length
  fz : ∀ a o, w.F a = some o → H a = some o
  ob : ∀ (i : Nat) (a : Addr) (o : Ob), w.α[i]? = some a → μ[i]? = some o → ObM K mg w H a o
  inj : ∀ (i j : Nat) (a : Addr) (oi oj : Ob), w.α[i]? = some a → w.α[j]? = some a → μ[i]? = some oi → μ[j]? = some oj → oi.live = true → oj.live = true → i = j
section
variable {K : PySem.W.Frag} {mg : Str → Option Value} {w w' : Wd} {H : Hp} {μ : Sto}
theorem Mt.free {p : Addr} (M : Mt K mg w H μ) (h : H p = none) : w.F p = none := by
  cases e : w.F p with
  | none => rfl
  | some o => rw [M.fz p o e] at h; cases h
theorem ObM.there {a : Addr} {o : Ob} (x : ObM K mg w H a o) (l : o.live = true) : ∃ u, H a = some u := by
  cases o with
  | dead => cases l
  | lst ds => obtain ⟨vs, e, _⟩ := x; exact ⟨_, e⟩
theorem ObM.unfz {a : Addr} {o : Ob} (x : ObM K mg w H a o) (l : o.live = true) : w.F a = none := by
  cases o with
  | dead => cases l
  | lst ds => obtain ⟨vs, _, e, _⟩ := x; exact e
/-- a thing elsewhere stays -/
theorem ObM.keep {H' : Hp} {a : Addr} {o : Ob} (x : ObM K mg w H a o) (l : Le w w') (hH : o.live = true → H' a = H a) (hF : o.live = true → w'.F a = w.F a) : ObM K mg w' H' a o := by
  cases o with
  | dead => trivial
  | lst ds =>
    obtain ⟨vs, e, f, r⟩ := x
    exact ⟨vs, (hH rfl).trans e, (hF rfl).trans f, r.mono l⟩
/-- a new frozen thing -/
theorem Mt.newF {p : Addr} {o : HO} (M : Mt K mg w H μ) (h : H p = none) : Mt K mg ⟨w.α, upd w.F p o⟩ (upd H p o) μ ∧ Le w ⟨w.α, upd w.F p o⟩ := by
  have hF := M.free h
  have l : Le w ⟨w.α, upd w.F p o⟩ := ⟨⟨[], by simp⟩, fun a u e => by
    show upd w.F p o a = _
    rw [upd_ne (ne_of_none e hF)]
    exact e⟩
  refine ⟨⟨M.len, fun a u e => ?_, fun i a ob ha ho => ?_, M.inj⟩, l⟩
  · have e : upd w.F p o a = some u := e
    by_cases hp : a = p
    · rw [hp, upd_same] at e
      rw [hp, upd_same]
      exact e
    · rw [upd_ne hp] at e
      rw [upd_ne hp]
      exact M.fz a u e
  · have x := M.ob i a ob ha ho
    refine x.keep l (fun lv => ?_) (fun lv => ?_)
    · obtain ⟨u, hu⟩ := x.there lv
      exact upd_ne (ne_of_none hu h)
    · obtain ⟨u, hu⟩ := x.there lv
      exact upd_ne (ne_of_none hu h)
/-- a new thing of the store -/
theorem Mt.newL {p : Addr} {ds : List D} {vs : List V} (M : Mt K mg w H μ) (h : H p = none) (r : Reps K mg w ds vs) :
    Mt K mg ⟨w.α ++ [p], w.F⟩ (upd H p (.lst vs)) (μ ++ [.lst ds]) ∧ Le w ⟨w.α ++ [p], w.F⟩ := by
  have hF := M.free h
  have l : Le w ⟨w.α ++ [p], w.F⟩ := ⟨⟨[p], rfl⟩, fun _ _ e => e⟩
  have split : ∀ {i : Nat} {a : Addr} {o : Ob}, (w.α ++ [p])[i]? = some a → (μ ++ [Ob.lst ds])[i]? = some o → (w.α[i]? = some a ∧ μ[i]? = some o) ∨ (i = μ.length ∧ a = p ∧ o = .lst ds) := fun {i a o} ha ho => by
    have hl := M.len
    by_cases hi : i < μ.length
    · rw [List.getElem?_append_left (by omega)] at ha
      rw [List.getElem?_append_left hi] at ho
      exact .inl ⟨ha, ho⟩
    · have hb := (List.getElem?_eq_some_iff.mp ho).1
      rw [List.length_append, List.length_singleton] at hb
      have e : i = μ.length := by omega
      subst e
      rw [List.getElem?_append_right (by omega), Nat.sub_self] at ho
      rw [← hl, List.getElem?_append_right (by omega), Nat.sub_self] at ha
      exact .inr ⟨rfl, (Option.some.inj ha).symm, (Option.some.inj ho).symm⟩
  refine ⟨⟨by rw [List.length_append, List.length_append, M.len]; rfl, fun a u e => ?_, fun i a o ha ho => ?_, fun i j a oi oj hi hj mi mj li lj => ?_⟩, l⟩
  · rw [upd_ne (ne_of_none (M.fz a u e) h)]
    exact M.fz a u e
  · rcases split ha ho with ⟨ha, ho⟩ | ⟨rfl, rfl, rfl⟩
    · have x := M.ob i a o ha ho
      refine x.keep l (fun lv => ?_) (fun _ => rfl)
      obtain ⟨u, hu⟩ := x.there lv
      exact upd_ne (ne_of_none hu h)
    · exact ⟨vs, upd_same, hF, r.mono l⟩
  · rcases split hi mi with ⟨hi', mi'⟩ | ⟨ei, ea, eo⟩
    · rcases split hj mj with ⟨hj', mj'⟩ | ⟨ej, ea, eo⟩
      · exact M.inj i j a oi oj hi' hj' mi' mj' li lj
      · obtain ⟨u, hu⟩ := (M.ob i _ oi hi' mi').there li
        rw [ea, h] at hu; cases hu
    · rcases split hj mj with ⟨hj', mj'⟩ | ⟨ej, ea', eo'⟩
      · obtain ⟨u, hu⟩ := (M.ob j _ oj hj' mj').there lj
        rw [ea, h] at hu; cases hu
      · omega
/-- a list of the store changes -/
theorem Mt.setL {n : Nat} {a : Addr} {ds ds' : List D} {vs' : List V} (M : Mt K mg w H μ) (ha : w.α[n]? = some a) (ho : μ[n]? = some (.lst ds)) (r : Reps K mg w ds' vs') : Mt K mg w (upd H a (.lst vs')) (μ.set n (.lst ds')) := by
  obtain ⟨vs, e, f, _⟩ := M.ob n a _ ha ho
  have hn : n < μ.length := (List.getElem?_eq_some_iff.mp ho).1
  have at_ : ∀ {i : Nat} {o : Ob}, (μ.set n (.lst ds'))[i]? = some o → (i = n ∧ o = .lst ds') ∨ (i ≠ n ∧ μ[i]? = some o) := fun {i o} hi => by
    by_cases hin : i = n
    · subst hin
      rw [List.getElem?_set_self hn] at hi
      exact .inl ⟨rfl, (Option.some.inj hi).symm⟩
    · rw [List.getElem?_set_ne (Ne.symm hin)] at hi
      exact .inr ⟨hin, hi⟩
  refine ⟨by rw [List.length_set]; exact M.len, fun b u q => ?_, fun i b o hb hi => ?_, fun i j b oi oj hi hj mi mj li lj => ?_⟩
  · have nb : b ≠ a := fun z => by rw [z, f] at q; cases q
    rw [upd_ne nb]
    exact M.fz b u q
  · rcases at_ hi with ⟨rfl, rfl⟩ | ⟨hin, hi⟩
    · rw [ha] at hb; cases hb
      exact ⟨vs', upd_same, f, r⟩
    · refine (M.ob i b o hb hi).keep (Le.refl w) (fun lv => ?_) (fun _ => rfl)
      refine upd_ne fun z => ?_
      subst z
      exact hin (M.inj i n _ o _ hb ha hi ho lv rfl)
  · rcases at_ mi with ⟨ei, eo⟩ | ⟨hin, mi'⟩
    · rcases at_ mj with ⟨ej, eo'⟩ | ⟨hjn, mj'⟩
      · rw [ei, ej]
      · rw [ei] at hi
        rw [ei]
        exact M.inj n j b _ oj hi hj ho mj' rfl lj
    · rcases at_ mj with ⟨ej, eo'⟩ | ⟨hjn, mj'⟩
      · rw [ej] at hj
        rw [ej]
        exact M.inj i n b oi _ hi hj mi' ho li rfl
      · exact M.inj i j b oi oj hi hj mi' mj' li lj
/-- a list of the store is frozen -/
theorem Mt.freeze {n : Nat} {a : Addr} {ds : List D} (M : Mt K mg w H μ) (ha : w.α[n]? = some a) (ho : μ[n]? = some (.lst ds)) :
    ∃ w', Le w w' ∧ Mt K mg w' H (μ.set n .dead) ∧ Rep K mg w' (.lst ds) (.ref a) := by
  obtain ⟨vs, e, f, r⟩ := M.ob n a _ ha ho
  have hn : n < μ.length := (List.getElem?_eq_some_iff.mp ho).1
  have l : Le w ⟨w.α, upd w.F a (.lst vs)⟩ := ⟨⟨[], by simp⟩, fun b u q => by
    show upd w.F a _ b = _
    rw [upd_ne (ne_of_none q f)]
    exact q⟩
  have at_ : ∀ {i : Nat} {o : Ob}, (μ.set n .dead)[i]? = some o → (i = n ∧ o = .dead) ∨ (i ≠ n ∧ μ[i]? = some o) := fun {i o} hi => by
    by_cases hin : i = n
    · subst hin
      rw [List.getElem?_set_self hn] at hi
      exact .inl ⟨rfl, (Option.some.inj hi).symm⟩
    · rw [List.getElem?_set_ne (Ne.symm hin)] at hi
      exact .inr ⟨hin, hi⟩
  refine ⟨⟨w.α, upd w.F a (.lst vs)⟩, l, ⟨by rw [List.length_set]; exact M.len, fun b u q => ?_, fun i b o hb hi => ?_, fun i j b oi oj hi hj mi mj li lj => ?_⟩, ⟨a, vs, rfl, upd_same, r.mono l⟩⟩
  · have q : upd w.F a (.lst vs) b = some u := q
    by_cases hb : b = a
    · rw [hb, upd_same] at q
      rw [hb, e]
      exact q
    · rw [upd_ne hb] at q
      exact M.fz b u q
  · rcases at_ hi with ⟨rfl, rfl⟩ | ⟨hin, hi⟩
    · trivial
    · refine (M.ob i b o hb hi).keep l (fun _ => rfl) (fun lv => ?_)
      show upd w.F a _ b = _
      refine upd_ne fun z => ?_
      subst z
      exact hin (M.inj i n _ o _ hb ha hi ho lv rfl)
  · rcases at_ mi with ⟨rfl, rfl⟩ | ⟨hin, mi⟩
    · cases li
    · rcases at_ mj with ⟨rfl, rfl⟩ | ⟨hjn, mj⟩
      · cases lj
      · exact M.inj i j b oi oj hi hj mi mj li lj
end
section
variable {K : PySem.W.Frag} {mg : Str → Option Value} {w w' : Wd} {H H' : Hp} {μ μ' : Sto}
mutual
theorem Rep.lo : ∀ {d : D} {v : V}, Rep K mg w d v → d.lo w.α.length = true
  | .non, _, _ => rfl
  | .bl _, _, _ => rfl
  | .int _, _, _ => rfl
  | .str _, _, _ => rfl
  | .tup ds, _, ⟨a, vs, e, f, r⟩ => by simpa [D.lo] using Reps.lo r
  | .lst ds, _, ⟨a, vs, e, f, r⟩ => by simpa [D.lo] using Reps.lo r
  | .rol ds, _, ⟨a, vs, e, f, r⟩ => by simpa [D.lo] using Reps.lo r
  | .ref k, _, ⟨a, e, h⟩ => by simpa [D.lo] using (List.getElem?_eq_some_iff.mp h).1
  | .exc c, _, _ => rfl
  | .fn _, _, _ => rfl
theorem Reps.lo : ∀ {ds : List D} {vs : List V}, Reps K mg w ds vs → los w.α.length ds = true
  | [], _, _ => rfl
  | _ :: _, _, ⟨v, r, e, h, t⟩ => by
    simp only [los, Bool.and_eq_true]
    exact ⟨Rep.lo h, Reps.lo t⟩
end
/-- behind a def: the later things forgotten, the earlier ones as they were -/
theorem Mt.cut (M : Mt K mg w H μ) (M' : Mt K mg w' H' μ') (l : Le w w') (hμ : μ'.take μ.length = μ) : Mt K mg ⟨w.α, w'.F⟩ H' μ ∧ Le w ⟨w.α, w'.F⟩ ∧ ∀ d v, d.lo μ.length = true → Rep K mg w' d v → Rep K mg ⟨w.α, w'.F⟩ d v := by
  obtain ⟨r, hr⟩ := l.pre
  have hα : ∀ k, k < μ.length → w.α[k]? = w'.α[k]? := fun k hk => by
    rw [hr, List.getElem?_append_left (by rw [M.len]; exact hk)]
  have hm : ∀ (i : Nat) (o : Ob), μ[i]? = some o → μ'[i]? = some o := fun i o h => by
    have hi := (List.getElem?_eq_some_iff.mp h).1
    rw [← hμ, List.getElem?_take_of_lt hi] at h
    exact h
  have cut : ∀ d v, d.lo μ.length = true → Rep K mg w' d v → Rep K mg ⟨w.α, w'.F⟩ d v := fun d v hd h => Rep.cut hα hd h
  refine ⟨⟨M.len, M'.fz, fun i a o ha ho => ?_, fun i j a oi oj hi hj mi mj li lj => ?_⟩, ⟨⟨[], by simp⟩, l.fz⟩, cut⟩
  · have hi := (List.getElem?_eq_some_iff.mp ho).1
    have x := M'.ob i a o (by rw [← hα i hi]; exact ha) (hm i o ho)
    have x0 := M.ob i a o ha ho
    cases o with
    | dead => trivial
    | lst ds =>
      obtain ⟨vs, e, f, rr⟩ := x
      obtain ⟨vs0, e0, f0, rr0⟩ := x0
      exact ⟨vs, e, f, Reps.cut hα (by rw [← M.len]; exact rr0.lo) rr⟩
  · have h1 := (List.getElem?_eq_some_iff.mp mi).1
    have h2 := (List.getElem?_eq_some_iff.mp mj).1
    exact M'.inj i j a oi oj (by rw [← hα i h1]; exact hi) (by rw [← hα j h2]; exact hj) (hm i oi mi) (hm j oj mj) li lj
end
end Mp

namespace Mp
open PySem PySem.Spec PyProof.Rows L2

/-! ### the frame -/
def Fm (K : PySem.W.Frag) (mg : Str → Option Value) (w : Wd) (σ : L2.St) (φ : Fr) : Prop := φ.length = σ.length ∧ ∀ (i : Nat) (d : D), φ[i]? = some (some d) → ∃ v, σ[i]? = some (some v) ∧ Rep K mg w d v
section
variable {K : PySem.W.Frag} {mg : Str → Option Value} {w w' : Wd} {σ : L2.St} {φ : Fr} {H : Hp} {μ : Sto}
theorem Fm.mono (l : Le w w') (F : Fm K mg w σ φ) : Fm K mg w' σ φ := ⟨F.1, fun i d h => let ⟨v, e, r⟩ := F.2 i d h; ⟨v, e, r.mono l⟩⟩
theorem Fm.set {i : Nat} {d : D} {v : V} (F : Fm K mg w σ φ) (r : Rep K mg w d v) : Fm K mg w (σ.set i (some v)) (φ.set i (some d)) := by
  refine ⟨by rw [List.length_set, List.length_set]; exact F.1, fun j e h => ?_⟩
  by_cases hj : i = j
  · subst hj
    have hi : i < φ.length := by
      have := (List.getElem?_eq_some_iff.mp h).1
      rwa [List.length_set] at this
    rw [List.getElem?_set_self hi] at h
    rw [List.getElem?_set_self (by rw [← F.1]; exact hi)]
    cases h
    exact ⟨v, rfl, r⟩
  · rw [List.getElem?_set_ne hj] at h
    rw [List.getElem?_set_ne hj]
    exact F.2 j e h
theorem wipeF_length (φ : Fr) : ∀ vs : List Nat, (wipeF φ vs).length = φ.length
  | [] => rfl
  | v :: vs => by unfold wipeF; rw [List.length_set, wipeF_length φ vs]
theorem wipeF_some {φ : Fr} {i : Nat} {x : D} : ∀ {vs : List Nat}, (wipeF φ vs)[i]? = some (some x) → φ[i]? = some (some x) ∧ i ∉ vs
  | [], h => ⟨h, by simp⟩
  | v :: vs, h => by
    unfold wipeF at h
    by_cases hi : v = i
    · subst hi
      by_cases hv : v < (wipeF φ vs).length
      · rw [List.getElem?_set_self hv] at h; cases h
      · rw [List.getElem?_eq_none (by simpa using hv)] at h; cases h
    · rw [List.getElem?_set_ne hi] at h
      obtain ⟨h1, h2⟩ := wipeF_some h
      exact ⟨h1, by simp only [List.mem_cons, not_or]; exact ⟨fun e => hi e.symm, h2⟩⟩
theorem Fm.wipe (F : Fm K mg w σ φ) (vs : List Nat) : Fm K mg w σ (wipeF φ vs) := ⟨(wipeF_length φ vs).trans F.1, fun i d h => F.2 i d (wipeF_some h).1⟩
theorem wipe_at {σ : L2.St} {i : Nat} : ∀ {vs : List Nat}, i ∉ vs → (wipe σ vs)[i]? = σ[i]?
  | [], _ => rfl
  | v :: vs, h => by
    have h1 : v ≠ i := fun e => h (by rw [e]; exact List.mem_cons_self)
    unfold L2.wipe
    rw [List.getElem?_set_ne h1]
    exact wipe_at fun z => h (List.mem_cons_of_mem _ z)
theorem Fm.wipe2 (F : Fm K mg w σ φ) (vs : List Nat) : Fm K mg w (L2.wipe σ vs) (wipeF φ vs) := ⟨by rw [wipeF_length, wipe_length]; exact F.1, fun i d h => by
  obtain ⟨h1, h2⟩ := wipeF_some h
  rw [wipe_at h2]
  exact F.2 i d h1⟩
end

/-! ### what is wanted behind a piece -/
section
variable {α β : Type} (K : PySem.W.Frag) (mg : Str → Option Value) (ra : Wd → α → β → Prop)
def Post (w : Wd) (W : WX) (σ : L2.St) (Q : β → Hp → Prop) : R α → Prop
  | .ok a μ' => ∀ w' H' b, Le w w' → Mt K mg w' H' μ' → ra w' a b → Q b H'
  | .er c μ' => ∀ w' H' C, Le w w' → Mt K mg w' H' μ' → mg c = some (.ref C) → W (.ref C) none σ H'
  | .no => False
def tG (W : WX) (m : Fr → Sto → R α) : L2.St → Hp → (β → Hp → Prop) → Prop := fun σ H Q => ∃ w μ φ, Mt K mg w H μ ∧ Fm K mg w σ φ ∧ Post K mg ra w W σ Q (m φ μ)
end
abbrev rB : Wd → Bool → Bool → Prop := fun _ a b => a = b
abbrev tE (K : PySem.W.Frag) (mg : Str → Option Value) (W : WX) (m : EM) : TE := tG K mg (Rep K mg) W m
abbrev tA (K : PySem.W.Frag) (mg : Str → Option Value) (W : WX) (m : AM) : TA := tG K mg (Reps K mg) W m
abbrev tT (K : PySem.W.Frag) (mg : Str → Option Value) (W : WX) (m : TM) : TT := tG K mg rB W m
section
variable {α β γ δ : Type} {K : PySem.W.Frag} {mg : Str → Option Value} {ra : Wd → α → β → Prop} {rc : Wd → γ → δ → Prop} {w w' : Wd} {W : WX} {σ : L2.St} {φ : Fr} {H : Hp} {μ : Sto}
theorem Post.le {Q : β → Hp → Prop} (l : Le w w') {r : R α} (h : Post K mg ra w W σ Q r) : Post K mg ra w' W σ Q r := by
  cases r with
  | ok a μ' => exact fun w2 H' b l' M r => h w2 H' b (l.trans l') M r
  | er c μ' => exact fun w2 H' C l' M r => h w2 H' C (l.trans l') M r
  | no => exact h
theorem Post.imp {Q Q' : β → Hp → Prop} {r : R α} (h : Post K mg ra w W σ Q r) (hq : ∀ w' a b H' μ', Le w w' → Mt K mg w' H' μ' → ra w' a b → Q b H' → Q' b H') : Post K mg ra w W σ Q' r := by
  cases r with
  | ok a μ' => exact fun w2 H' b l' M r => hq w2 a b H' μ' l' M r (h w2 H' b l' M r)
  | er c μ' => exact h
  | no => exact h
theorem tG_seq {m : Fr → Sto → R α} {k : α → Sto → R γ} {Q : δ → Hp → Prop} {P : β → Hp → Prop} (M : Mt K mg w H μ) (F : Fm K mg w σ φ) (h : Post K mg rc w W σ Q ((m φ μ).bind k))
    (hk : ∀ w' μ1 a b H1, Le w w' → Mt K mg w' H1 μ1 → Fm K mg w' σ φ → ra w' a b → Post K mg rc w' W σ Q (k a μ1) → P b H1) : tG K mg ra W m σ H P := by
  refine ⟨w, μ, φ, M, F, ?_⟩
  cases e : m φ μ with
  | ok a μ1 =>
    rw [e] at h
    exact fun w' H' b l M' r => hk w' μ1 a b H' l M' (F.mono l) r (Post.le l h)
  | er c μ1 =>
    rw [e] at h
    exact h
  | no =>
    rw [e] at h
    exact h
theorem Post.ok {Q : β → Hp → Prop} {a : α} {b : β} (h : Post K mg ra w W σ Q (.ok a μ)) (M : Mt K mg w H μ) (r : ra w a b) : Q b H := h w H b (Le.refl w) M r
end

/-! ### weakening -/
section
variable {X : Cx}
theorem PE_imp {e : Expr} {t t' : TE} (h : PE X e t) (hi : ∀ σ H Q, t' σ H Q → t σ H Q) : PE X e t' := ⟨fun pins s σ H Q I q => h.run pins s σ H Q I (hi _ _ _ q)⟩
theorem PT_imp {e : Expr} {t t' : TT} (h : PT X e t) (hi : ∀ σ H Q, t' σ H Q → t σ H Q) : PT X e t' := ⟨fun pins s σ H Q I q => h.run pins s σ H Q I (hi _ _ _ q)⟩
theorem PW_imp {e : Expr} {t t' : TT} (h : PW X e t) (hi : ∀ σ H Q, t' σ H Q → t σ H Q) : PW X e t' := ⟨fun wh pins s σ H Q I q => h.run wh pins s σ H Q I (hi _ _ _ q)⟩
theorem PA_imp {es : List Expr} {t t' : TA} (h : PA X es t) (hi : ∀ σ H Q, t' σ H Q → t σ H Q) : PA X es t' := ⟨fun p pins s σ H Q I q => h.run p pins s σ H Q I (hi _ _ _ q)⟩
theorem PS_imp {st : Stmt} {t t' : TS} (h : PS X st t) (hi : ∀ D σ H, t' D σ H → t D σ H) : PS X st t' := ⟨fun pins s σ H D I q => h.run pins s σ H D I (hi _ _ _ q)⟩
theorem PSs_imp {st : List Stmt} {t t' : TS} (h : PSs X st t) (hi : ∀ D σ H, t' D σ H → t D σ H) : PSs X st t' := ⟨fun pins s σ H D I q => h.run pins s σ H D I (hi _ _ _ q)⟩
theorem PG_imp {tg : Expr} {t t' : TG} (h : PG X tg t) (hi : ∀ v σ H Q, t' v σ H Q → t v σ H Q) : PG X tg t' := ⟨fun pins s σ H v u Q I r q => h.run pins s σ H v u Q I r (hi _ _ _ _ q)⟩
theorem PI_imp {tg it : Expr} {t t' : TI} (h : PI X tg it t) (hi : ∀ σ H R, t' σ H R → t σ H R) : PI X tg it t' := ⟨fun pins s σ H R I q => h.run pins s σ H R I (hi _ _ _ q)⟩
theorem PI_or {tg it : Expr} {t t' : TI} (h : PI X tg it t) (h' : PI X tg it t') : PI X tg it (fun σ H R => t σ H R ∨ t' σ H R) := ⟨fun pins s σ H R I q => q.elim (h.run pins s σ H R I) (h'.run pins s σ H R I)⟩
theorem OpR_or {f : Value → Value → Sem Value} {r r' : R2} (h : OpR X f r) (h' : OpR X f r') : OpR X f (fun x y H Q => r x y H Q ∨ r' x y H Q) := fun pins s σ H x y v u Q I rx ry q =>
  q.elim (h pins s σ H x y v u Q I rx ry) (h' pins s σ H x y v u Q I rx ry)
end

/-! ### the judgments -/
abbrev PEm (X : Cx) (W : WX) (e : Expr) (m : EM) : Prop := PE X e (tE X.K X.mg W m)
abbrev PTm (X : Cx) (W : WX) (e : Expr) (m : TM) : Prop := PT X e (tT X.K X.mg W m)
abbrev PWm (X : Cx) (W : WX) (e : Expr) (m : TM) : Prop := PW X e (tT X.K X.mg W m)
/-- arguments; how many they are -/
structure PAm (X : Cx) (W : WX) (es : List Expr) (m : AM) : Prop where
  pa : PA X es (tA X.K X.mg W m)
  len : ∀ φ μ xs μ', m φ μ = .ok xs μ' → xs.length = es.length

/-! ### expressions -/
section
variable {X : Cx} {W : WX} {a b c e : Expr} {es : List Expr} {ma mb mc m : EM} {mt mu : TM} {am : AM} {pos : Pos}
theorem em_var (i : Nat) {x : Str} (hN : X.N[i]? = some x := by rfl) (hv : Vis X.env.scope x := by first | exact Or.inl rfl | exact Or.inr (Or.inl rfl) | exact Or.inr (Or.inr rfl)) (hd : (x == ("__debug__" : Str)) = false := by decide)
    (hcd : (x == ("__classdict__" : Str)) = false := by decide) : PEm X W (.Name x pos) (eVar i) := PE_imp (pe_var hN hv hd hcd) fun σ H Q ⟨w, μ, φ, M, F, h⟩ => by
  unfold eVar at h
  split at h
  · rename_i d q
    obtain ⟨v, e, r⟩ := F.2 i d q
    exact ⟨v, e, h.ok M r⟩
  · exact h.elim
theorem em_c {v : V} {d : D} (h : PE X e (tC v)) (r : ∀ w, Rep X.K X.mg w d v) : PEm X W e (eC d) := PE_imp h fun σ H Q ⟨w, μ, φ, M, F, h⟩ => h.ok M (r w)
theorem em_int {i : Int} {j} : PEm X W (.Constant (.int i) j pos) (eC (.int i)) := em_c pe_int fun _ => rfl
theorem em_bl {b : Bool} {j} : PEm X W (.Constant (.bool b) j pos) (eC (.bl b)) := em_c pe_bl fun _ => rfl
theorem em_str {s : Str} {j} : PEm X W (.Constant (.str s) j pos) (eC (.str s)) := em_c pe_str fun _ => rfl
theorem em_non {j} : PEm X W (.Constant .none j pos) (eC .non) := em_c pe_non fun _ => rfl
/-- a module's text, a module's int -/
theorem em_gstr {x s : Str} {t : Tok} (hm : X.mg x = some (.str s t)) (hg : Gl X x := by rfl) (hd : (x == ("__debug__" : Str)) = false := by decide) : PEm X W (.Name x pos) (eC (.str s)) := em_c (pe_glob (v := .str s) hg hm ⟨t, rfl⟩ hd) fun _ => rfl
theorem em_gint {x : Str} {i : Int} {t : Tok} (hm : X.mg x = some (.int i t)) (hg : Gl X x := by rfl) (hd : (x == ("__debug__" : Str)) = false := by decide) : PEm X W (.Name x pos) (eC (.int i)) := em_c (pe_glob (v := .int i) hg hm ⟨t, rfl⟩ hd) fun _ => rfl

/-- by values: what the rule r asks is told by f -/
def OpM (K : PySem.W.Frag) (mg : Str → Option Value) (f : F2) (r : R2) : Prop :=
  ∀ (w : Wd) (H : Hp) (μ : Sto) (W : WX) (σ : L2.St) (x y : D) (vx vy : V) (Q : VK), Mt K mg w H μ → Rep K mg w x vx → Rep K mg w y vy → Post K mg (Rep K mg) w W σ Q (f x y μ) → r vx vy H Q
theorem op_tE {r : R2} {f : F2} (hr : OpM X.K X.mg f r) (σ : L2.St) (H : Hp) (Q : VK) (h : tE X.K X.mg W (eBin f ma mb) σ H Q) : tOp r (tE X.K X.mg W ma) (tE X.K X.mg W mb) σ H Q := by
  obtain ⟨w, μ, φ, M, F, h⟩ := h
  exact tG_seq M F h fun w1 μ1 x vx H1 l1 M1 F1 r1 h1 => tG_seq M1 F1 h1 fun w2 μ2 y vy H2 l2 M2 F2 r2 h2 => hr w2 H2 μ2 W σ x y vx vy Q M2 (r1.mono l2) r2 h2
theorem em_bin {op : Operator} {f : F2} {r : R2} (ho : OpR X (binaryOp op) r) (hr : OpM X.K X.mg f r) (ha : PEm X W a ma) (hb : PEm X W b mb) : PEm X W (.BinOp a op b pos) (eBin f ma mb) := PE_imp (pe_op ho ha hb) (op_tE hr)
theorem em_cmp {op : CmpOp} {f : F2} {r : R2} (ho : OpR X (compareOp op) r) (hr : OpM X.K X.mg f r) (ha : PEm X W a ma) (hb : PEm X W b mb) (hm : behindInMarks op b = false := by first | exact nomark _ | rfl) : PEm X W (.Compare a [op] [b] pos) (eBin f ma mb) := PE_imp (pe_cmpR ho ha hb hm) (op_tE hr)
theorem em_ix {f : F2} {r : R2} (ho : IxR X r) (hr : OpM X.K X.mg f r) (ha : PEm X W a ma) (hb : PEm X W b mb) (hs : PlainIx b := by exact fun _ _ => rfl) : PEm X W (.Subscript a b pos) (eBin f ma mb) := PE_imp (pe_ix ho ha hb hs) (op_tE hr)

/-! ### tests -/
theorem tm_val (h : PEm X W e m) (he : ∀ whole, isTrue e X.env whole = (do let v ← whole; standAt e.pos; holding [v] (truthy v)) := by intro _; rfl) : PTm X W e (tVal m) := PT_imp (pt_val h he) fun σ H Q ⟨w, μ, φ, M, F, h⟩ =>
  tG_seq M F h fun w1 μ1 x vx H1 l1 M1 F1 r1 h1 => by
    cases x with
    | bl k =>
      cases r1
      exact ⟨k, rfl, Post.ok (b := k) h1 M1 rfl⟩
    | _ => exact h1.elim
/-- a comparison as a test -/
theorem tm_cmp {op : CmpOp} {f : F2} {r : R2} (ho : OpR X (compareOp op) r) (hr : OpM X.K X.mg f r) (ha : PEm X W a ma) (hb : PEm X W b mb) (hm : behindInMarks op b = false := by first | exact nomark _ | rfl) : PTm X W (.Compare a [op] [b] pos) (tVal (eBin f ma mb)) :=
  PT_imp (pt_cmpR ho ha hb hm) fun σ H Q ⟨w, μ, φ, M, F, h⟩ => by
    refine op_tE (W := W) hr σ H (fun x H' => ∃ k, x = .bl k ∧ Q k H') ⟨w, μ, φ, M, F, ?_⟩
    unfold tVal at h
    cases e : eBin f ma mb φ μ with
    | ok x μ1 =>
      rw [e] at h
      intro w' H' v l M' r
      cases x with
      | bl k => cases r; exact ⟨k, rfl, h w' H' k l M' rfl⟩
      | _ => exact h.elim
    | er c μ1 => rw [e] at h; exact h
    | no => rw [e] at h; exact h
theorem tm_not (h : PTm X W a mt) : PTm X W (.UnaryOp .Not a pos) (tNot mt) := PT_imp (pt_not h) fun σ H Q ⟨w, μ, φ, M, F, h⟩ =>
  tG_seq M F h fun w1 μ1 x vx H1 l1 M1 F1 r1 h1 => by cases r1; exact Post.ok (b := !x) h1 M1 rfl
theorem tw_and1 (h : PTm X W a mt) : PWm X W (.BoolOp .And [a] pos) mt := pw_and1 h
theorem tw_or1 (h : PTm X W a mt) : PWm X W (.BoolOp .Or [a] pos) mt := pw_or1 h
theorem tw_and {rest : List Expr} (h : PTm X W a mt) (h' : PWm X W (.BoolOp .And (b :: rest) pos) mu) : PWm X W (.BoolOp .And (a :: b :: rest) pos) (tAnd mt mu) := PW_imp (pw_and h h') fun σ H Q ⟨w, μ, φ, M, F, h⟩ =>
  tG_seq M F h fun w1 μ1 x vx H1 l1 M1 F1 r1 h1 => by
    cases r1
    cases x with
    | true => exact ⟨w1, μ1, φ, M1, F1, h1⟩
    | false => exact Post.ok (b := false) h1 M1 rfl
theorem tw_or {rest : List Expr} (h : PTm X W a mt) (h' : PWm X W (.BoolOp .Or (b :: rest) pos) mu) : PWm X W (.BoolOp .Or (a :: b :: rest) pos) (tOr mt mu) := PW_imp (pw_or h h') fun σ H Q ⟨w, μ, φ, M, F, h⟩ =>
  tG_seq M F h fun w1 μ1 x vx H1 l1 M1 F1 r1 h1 => by
    cases r1
    cases x with
    | false => exact ⟨w1, μ1, φ, M1, F1, h1⟩
    | true => exact Post.ok (b := true) h1 M1 rfl
/-- and, or as values (truths) -/
theorem em_one {op} (h : PEm X W a ma) : PEm X W (.BoolOp op [a] pos) ma := pe_one h
theorem em_and {rest : List Expr} (h : PEm X W a ma) (h' : PEm X W (.BoolOp .And (b :: rest) pos) mb) : PEm X W (.BoolOp .And (a :: b :: rest) pos) (eAnd ma mb) := PE_imp (pe_and h h') fun σ H Q ⟨w, μ, φ, M, F, h⟩ =>
  tG_seq M F h fun w1 μ1 x vx H1 l1 M1 F1 r1 h1 => by
    cases x with
    | bl k =>
      cases r1
      refine ⟨k, rfl, ?_⟩
      cases k with
      | true => exact ⟨w1, μ1, φ, M1, F1, h1⟩
      | false => exact Post.ok (b := V.bl false) h1 M1 rfl
    | _ => exact h1.elim
theorem em_or {rest : List Expr} (h : PEm X W a ma) (h' : PEm X W (.BoolOp .Or (b :: rest) pos) mb) : PEm X W (.BoolOp .Or (a :: b :: rest) pos) (eOr ma mb) := PE_imp (pe_or h h') fun σ H Q ⟨w, μ, φ, M, F, h⟩ =>
  tG_seq M F h fun w1 μ1 x vx H1 l1 M1 F1 r1 h1 => by
    cases x with
    | bl k =>
      cases r1
      refine ⟨k, rfl, ?_⟩
      cases k with
      | false => exact ⟨w1, μ1, φ, M1, F1, h1⟩
      | true => exact Post.ok (b := V.bl true) h1 M1 rfl
    | _ => exact h1.elim
theorem em_not (h : PEm X W a ma) : PEm X W (.UnaryOp .Not a pos) (eNot ma) := PE_imp (pe_not h) fun σ H Q ⟨w, μ, φ, M, F, h⟩ =>
  tG_seq M F h fun w1 μ1 x vx H1 l1 M1 F1 r1 h1 => by
    cases x with
    | bl k =>
      cases r1
      exact ⟨k, rfl, Post.ok (b := V.bl !k) h1 M1 rfl⟩
    | _ => exact h1.elim
theorem em_if (hc : PTm X W c mt) (ha : PEm X W a ma) (hb : PEm X W b mb) : PEm X W (.IfExp c a b pos) (eIf mt ma mb) := PE_imp (pe_ifExp hc ha hb) fun σ H Q ⟨w, μ, φ, M, F, h⟩ =>
  tG_seq M F h fun w1 μ1 x vx H1 l1 M1 F1 r1 h1 => by
    cases r1
    cases x with
    | true => exact ⟨w1, μ1, φ, M1, F1, h1⟩
    | false => exact ⟨w1, μ1, φ, M1, F1, h1⟩
/-- a < b < c -/
def eChain (f g : F2) (a b c : EM) : EM := fun φ μ => (a φ μ).bind fun x μ1 => (b φ μ1).bind fun y μ2 => (f x y μ2).bind fun t μ3 => match t with
  | .bl true => (c φ μ3).bind fun z μ4 => g y z μ4
  | .bl false => .ok (.bl false) μ3
  | _ => .no

/-! ### arguments, displays -/
theorem am_nil : PAm X W [] aNil := ⟨PA_imp pa_nil fun σ H Q ⟨w, μ, φ, M, F, h⟩ => Post.ok (b := []) h M Reps.nil, fun φ μ xs μ' h => by cases h; rfl⟩
theorem am_cons (ha : PEm X W e m) (hr : PAm X W es am) (hs : starEach (e :: es) X.env = (false, eval e X.env) :: starEach es X.env := by rfl) : PAm X W (e :: es) (aCons m am) := by
  refine ⟨PA_imp (pa_cons ha hr.pa hs) ?_, fun φ μ xs μ' h => ?_⟩
  · intro σ H Q ⟨w, μ, φ, M, F, h⟩
    exact tG_seq M F h fun w1 μ1 x vx H1 l1 M1 F1 r1 h1 => tG_seq M1 F1 h1 fun w2 μ2 xs vs H2 l2 M2 F2 r2 h2 =>
      Post.ok (b := vx :: vs) h2 M2 (Reps.cons (r1.mono l2) r2)
  unfold aCons at h
  cases q : m φ μ with
  | ok x μ1 =>
    rw [q, R.bind_ok] at h
    cases q2 : am φ μ1 with
    | ok ys μ2 =>
      rw [q2, R.bind_ok] at h
      cases h
      rw [List.length_cons, List.length_cons, hr.len φ μ1 ys _ q2]
    | er c μ2 => rw [q2] at h; cases h
    | no => rw [q2] at h; cases h
  | er c μ1 => rw [q] at h; cases h
  | no => rw [q] at h; cases h
/-- behind arguments, with their number -/
theorem tG_args {k : List D → Sto → R D} {Q : VK} {P : List V → Hp → Prop} {w : Wd} {μ : Sto} {σ : L2.St} {φ : Fr} {H : Hp} (hm : PAm X W es am) (M : Mt X.K X.mg w H μ) (F : Fm X.K X.mg w σ φ) (h : Post X.K X.mg (Rep X.K X.mg) w W σ Q ((am φ μ).bind k))
    (hk : ∀ w' μ1 xs vs H1, Le w w' → Mt X.K X.mg w' H1 μ1 → Fm X.K X.mg w' σ φ → Reps X.K X.mg w' xs vs → xs.length = es.length → Post X.K X.mg (Rep X.K X.mg) w' W σ Q (k xs μ1) → P vs H1) : tA X.K X.mg W am σ H P := by
  refine ⟨w, μ, φ, M, F, ?_⟩
  cases e : am φ μ with
  | ok a μ1 =>
    rw [e] at h
    exact fun w' H' b l M' r => hk w' μ1 a b H' l M' (F.mono l) r (hm.len φ μ a μ1 e) (Post.le l h)
  | er c μ1 =>
    rw [e] at h
    exact h
  | no =>
    rw [e] at h
    exact h
theorem small_size {n : Nat} (h : n ≤ 1000) : n ≤ sizeLine := Nat.le_trans h (by decide)
theorem em_tup {x1} (h : PAm X W es am) (hl : es.length ≤ 1000 := by decide) : PEm X W (.Tuple es x1 pos) (eTup am) := PE_imp (pe_tup h.pa) fun σ H Q ⟨w, μ, φ, M, F, q⟩ =>
  tG_args h M F q fun w1 μ1 xs vs H1 l1 M1 F1 r1 n1 h1 => ⟨by rw [← r1.length, n1]; exact small_size hl, fun p hp => by
    obtain ⟨M2, l2⟩ := M1.newF (o := .tup vs) hp
    exact h1 _ _ _ l2 M2 ⟨p, vs, rfl, upd_same, r1.mono l2⟩⟩
theorem em_lst (h : PAm X W es am) (hl : es.length ≤ 1000 := by decide) : PEm X W (.List es pos) (eLst am) := PE_imp (pe_lst h.pa) fun σ H Q ⟨w, μ, φ, M, F, q⟩ =>
  tG_args h M F q fun w1 μ1 xs vs H1 l1 M1 F1 r1 n1 h1 => ⟨by rw [← r1.length, n1]; exact small_size hl, fun p hp => by
    obtain ⟨M2, l2⟩ := M1.newF (o := .lst vs) hp
    exact h1 _ _ _ l2 M2 ⟨p, vs, rfl, upd_same, r1.mono l2⟩⟩
theorem em_new (h : PAm X W es am) (hl : es.length ≤ 1000 := by decide) : PEm X W (.List es pos) (eNew am) := PE_imp (pe_lst h.pa) fun σ H Q ⟨w, μ, φ, M, F, q⟩ =>
  tG_args h M F q fun w1 μ1 xs vs H1 l1 M1 F1 r1 n1 h1 => ⟨by rw [← r1.length, n1]; exact small_size hl, fun p hp => by
    obtain ⟨M2, l2⟩ := M1.newL hp r1
    exact h1 _ _ _ l2 M2 ⟨p, rfl, by show (w1.α ++ [p])[μ1.length]? = some p; rw [← M1.len, List.getElem?_append_right (Nat.le_refl _), Nat.sub_self]; rfl⟩⟩
end
end Mp

namespace Mp
open PySem PySem.Spec PyProof.Rows L2

/-! ### statements -/
def PostS (K : PySem.W.Frag) (mg : Str → Option Value) (w : Wd) (W : WX) (D : Ends) : SR → Prop
  | .nx φ μ => ∀ w' σ' H', Le w w' → Mt K mg w' H' μ → Fm K mg w' σ' φ → D.nx σ' H'
  | .bk φ μ => ∀ w' σ' H', Le w w' → Mt K mg w' H' μ → Fm K mg w' σ' φ → D.bk σ' H'
  | .ct φ μ => ∀ w' σ' H', Le w w' → Mt K mg w' H' μ → Fm K mg w' σ' φ → D.ct σ' H'
  | .rt d μ => ∀ w' H' v, Le w w' → Mt K mg w' H' μ → Rep K mg w' d v → D.rt v H'
  | .er c φ μ => ∀ w' σ' H' C, Le w w' → Mt K mg w' H' μ → Fm K mg w' σ' φ → mg c = some (.ref C) → W (.ref C) none σ' H'
  | .no => False
def tS (K : PySem.W.Frag) (mg : Str → Option Value) (W : WX) (m : SM) : TS := fun D σ H => ∃ w μ φ, Mt K mg w H μ ∧ Fm K mg w σ φ ∧ PostS K mg w W D (m φ μ)
abbrev PSm (X : Cx) (W : WX) (st : Stmt) (m : SM) : Prop := PS X st (tS X.K X.mg W m)
abbrev PSsm (X : Cx) (W : WX) (sts : List Stmt) (m : SM) : Prop := PSs X sts (tS X.K X.mg W m)
section
variable {α β : Type} {K : PySem.W.Frag} {mg : Str → Option Value} {ra : Wd → α → β → Prop} {w w' : Wd} {W : WX} {σ : L2.St} {φ : Fr} {H : Hp} {μ : Sto} {D : Ends}
theorem PostS.le (l : Le w w') {r : SR} (h : PostS K mg w W D r) : PostS K mg w' W D r := by
  cases r with
  | nx φ μ => exact fun w2 σ' H' l' M F => h w2 σ' H' (l.trans l') M F
  | bk φ μ => exact fun w2 σ' H' l' M F => h w2 σ' H' (l.trans l') M F
  | ct φ μ => exact fun w2 σ' H' l' M F => h w2 σ' H' (l.trans l') M F
  | rt d μ => exact fun w2 H' v l' M r => h w2 H' v (l.trans l') M r
  | er c φ μ => exact fun w2 σ' H' C l' M F hc => h w2 σ' H' C (l.trans l') M F hc
  | no => exact h
theorem PostS.nx_ok (h : PostS K mg w W D (.nx φ μ)) (M : Mt K mg w H μ) (F : Fm K mg w σ φ) : D.nx σ H := h w σ H (Le.refl w) M F
theorem tS_seqE {m : Fr → Sto → R α} {k : α → Sto → SR} {P : β → Hp → Prop} (M : Mt K mg w H μ) (F : Fm K mg w σ φ) (h : PostS K mg w W D ((m φ μ).then φ k))
    (hk : ∀ w' μ1 a b H1, Le w w' → Mt K mg w' H1 μ1 → Fm K mg w' σ φ → ra w' a b → PostS K mg w' W D (k a μ1) → P b H1) : tG K mg ra W m σ H P := by
  refine ⟨w, μ, φ, M, F, ?_⟩
  cases e : m φ μ with
  | ok a μ1 =>
    rw [e] at h
    exact fun w' H' b l M' r => hk w' μ1 a b H' l M' (F.mono l) r (PostS.le l h)
  | er c μ1 =>
    rw [e] at h
    exact fun w' H' C l M' hc => h w' σ H' C l M' (F.mono l) hc
  | no =>
    rw [e] at h
    exact h
end
section
variable {X : Cx} {W : WX} {e c : Expr} {st : Stmt} {rest sts us : List Stmt} {m : EM} {mt : TM} {ms mr mu : SM} {pos : Pos}
theorem ssm_nil : PSsm X W [] sNext := PSs_imp pss_nil fun D σ H ⟨w, μ, φ, M, F, h⟩ => h.nx_ok M F
theorem ssm_cons (h1 : PSm X W st ms) (h2 : PSsm X W rest mr) : PSsm X W (st :: rest) (sSeq ms mr) := PSs_imp (pss_cons h1 h2) fun D σ H ⟨w, μ, φ, M, F, h⟩ => by
  refine ⟨w, μ, φ, M, F, ?_⟩
  unfold sSeq at h
  cases e : ms φ μ with
  | nx φ1 μ1 =>
    rw [e] at h
    exact fun w' σ' H' l M' F' => ⟨w', μ1, φ1, M', F', PostS.le l h⟩
  | bk φ1 μ1 => rw [e] at h; exact h
  | ct φ1 μ1 => rw [e] at h; exact h
  | rt d μ1 => rw [e] at h; exact h
  | er c φ1 μ1 => rw [e] at h; exact h
  | no => rw [e] at h; exact h
theorem ssm_one (h1 : PSm X W st ms) : PSsm X W [st] ms := pss_one h1
theorem sm_pass : PSm X W (.Pass pos) sNext := PS_imp ps_pass fun D σ H ⟨w, μ, φ, M, F, h⟩ => h.nx_ok M F
theorem sm_break : PSm X W (.Break pos) sBreak := PS_imp ps_break fun D σ H ⟨w, μ, φ, M, F, h⟩ => h w σ H (Le.refl w) M F
theorem sm_cont : PSm X W (.Continue pos) sCont := PS_imp ps_continue fun D σ H ⟨w, μ, φ, M, F, h⟩ => h w σ H (Le.refl w) M F
theorem sm_set (i : Nat) {x : Str} {pos' : Pos} (hN : X.N.Nodup) (he : PEm X W e m) (hi : X.N[i]? = some x := by rfl) (hx : Loc X.env.scope x := by first | exact Or.inl rfl | exact Or.inr rfl) (hs : swapsWith e (some (.Name x pos')) pos.line X.env = pure false := by rfl)
    (hf : X.fn x = true ∨ X.env.scope.names.lookup x = some .local := by first | exact .inl rfl | exact .inr rfl | assumption) : PSm X W (.Assign [.Name x pos'] e pos) (sSet i m) := PS_imp (ps_set hN hi hx he hs hf) fun D σ H ⟨w, μ, φ, M, F, h⟩ =>
  tS_seqE M F h fun w1 μ1 a v H1 l1 M1 F1 r1 h1 => PostS.nx_ok h1 M1 (F1.set r1)
theorem sm_ret (he : PEm X W e m) : PSm X W (.Return (some e) pos) (sRet m) := PS_imp (ps_ret he) fun D σ H ⟨w, μ, φ, M, F, h⟩ =>
  tS_seqE M F h fun w1 μ1 a v H1 l1 M1 F1 r1 h1 => h1 w1 H1 v (Le.refl w1) M1 r1
theorem sm_drop (he : PEm X W e m) (hs : swapsWith e none pos.line X.env = pure false := by rfl) : PSm X W (.Expr e pos) (sDrop m) := PS_imp (ps_expr he hs) fun D σ H ⟨w, μ, φ, M, F, h⟩ =>
  tS_seqE M F h fun w1 μ1 a v H1 l1 M1 F1 r1 h1 => PostS.nx_ok h1 M1 F1
theorem sm_if (hc : PTm X W c mt) (ha : PSsm X W sts ms) (hb : PSsm X W us mu) : PSm X W (.If c sts us pos) (sIf mt ms mu) := PS_imp (ps_if hc ha hb) fun D σ H ⟨w, μ, φ, M, F, h⟩ =>
  tS_seqE M F h fun w1 μ1 a b H1 l1 M1 F1 r1 h1 => by
    cases r1
    cases a with
    | true => exact ⟨w1, μ1, φ, M1, F1, h1⟩
    | false => exact ⟨w1, μ1, φ, M1, F1, h1⟩
/-- a ghost: the list of slot i is frozen -/
def sFz (i : Nat) : SM := fun φ μ => match φ[i]? with
  | some (some (.ref n)) => match μ[n]? with
    | some (.lst xs) => .nx (φ.set i (some (.lst xs))) (μ.set n .dead)
    | _ => .no
  | _ => .no
theorem Fm.fz {K : PySem.W.Frag} {mg : Str → Option Value} {w : Wd} {σ : L2.St} {φ : Fr} {i : Nat} {d : D} {v : V} (F : Fm K mg w σ φ) (hσ : σ[i]? = some (some v)) (r : Rep K mg w d v) : Fm K mg w σ (φ.set i (some d)) := by
  refine ⟨by rw [List.length_set]; exact F.1, fun j e h => ?_⟩
  by_cases hj : i = j
  · subst hj
    have hi : i < φ.length := by
      have := (List.getElem?_eq_some_iff.mp h).1
      rwa [List.length_set] at this
    rw [List.getElem?_set_self hi] at h
    cases h
    exact ⟨v, hσ, r⟩
  · rw [List.getElem?_set_ne hj] at h
    exact F.2 j e h
theorem ssm_fz (i : Nat) (h : PSsm X W sts ms) : PSsm X W sts (sSeq (sFz i) ms) := PSs_imp h fun D σ H ⟨w, μ, φ, M, F, h⟩ => by
  unfold sSeq sFz at h
  split at h
  · rename_i n e
    split at h
    · rename_i xs e2
      obtain ⟨v, hv, a, ev, ha⟩ := F.2 i _ e
      subst ev
      obtain ⟨w', l, M', r⟩ := M.freeze ha e2
      exact ⟨w', _, _, M', (F.mono l).fz hv r, PostS.le l h⟩
    · exact h.elim
  · exact h.elim

/-! ### targets -/
def GV (K : PySem.W.Frag) (mg : Str → Option Value) (g : GM) (ss : List Nat) : TG := fun v σ H Q => ∃ w μ φ d φ', Mt K mg w H μ ∧ Fm K mg w σ φ ∧ Rep K mg w d v ∧ g d φ μ = some φ' ∧ ∀ σ', Fm K mg w σ' φ' → (∀ i, i ∉ ss → σ'[i]? = σ[i]?) → σ'.length = σ.length → Q σ' H
def GVs (K : PySem.W.Frag) (mg : Str → Option Value) (g : GsM) (ss : List Nat) : TGs := fun vs σ H Q => ∃ w μ φ ds φ', Mt K mg w H μ ∧ Fm K mg w σ φ ∧ Reps K mg w ds vs ∧ g ds φ μ = some φ' ∧ ∀ σ', Fm K mg w σ' φ' → (∀ i, i ∉ ss → σ'[i]? = σ[i]?) → σ'.length = σ.length → Q σ' H
abbrev PGm (X : Cx) (tg : Expr) (g : GM) (ss : List Nat) : Prop := PG X tg (GV X.K X.mg g ss)
structure PGsm (X : Cx) (ts : List Expr) (g : GsM) (ss : List Nat) : Prop where
  pg : PGs X ts (GVs X.K X.mg g ss)
  len : ∀ ds φ μ φ', g ds φ μ = some φ' → ds.length = ts.length
theorem PGs_imp {ts : List Expr} {t t' : TGs} (h : PGs X ts t) (hi : ∀ v σ H Q, t' v σ H Q → t v σ H Q) : PGs X ts t' := ⟨fun pins s σ H v u Q I r q => h.run pins s σ H v u Q I r (hi _ _ _ _ q)⟩
theorem gm_name (i : Nat) {x : Str} (hN : X.N.Nodup) (hi : X.N[i]? = some x := by rfl) (hx : Loc X.env.scope x := by first | exact Or.inl rfl | exact Or.inr rfl) (hf : X.fn x = true ∨ X.env.scope.names.lookup x = some .local := by first | exact .inl rfl | exact .inr rfl | assumption) :
    PGm X (.Name x pos) (gName i) [i] := PG_imp (pg_name hN hi hx hf) fun v σ H Q ⟨w, μ, φ, d, φ', M, F, r, hg, k⟩ => by
  cases hg
  exact k _ (F.set r) (fun j hj => List.getElem?_set_ne (fun z => hj (by rw [z]; exact List.mem_singleton.mpr rfl))) (by rw [List.length_set])
theorem gms_nil : PGsm X [] gNil [] := by
  refine ⟨PGs_imp pgs_nil ?_, fun ds φ μ φ' hg => ?_⟩
  · intro v σ H Q ⟨w, μ, φ, ds, φ', M, F, r, hg, k⟩
    cases ds with
    | nil =>
      cases hg
      cases r
      exact ⟨rfl, k σ F (fun _ _ => rfl) rfl⟩
    | cons d ds => cases hg
  · cases ds with
    | nil => rfl
    | cons d ds => cases hg
theorem gms_cons {tg : Expr} {ts : List Expr} {g : GM} {gs : GsM} {ss ss' : List Nat} (h1 : PGm X tg g ss) (h2 : PGsm X ts gs ss') (hs : (assignEach (tg :: ts) X.env).map (·.2) = assign tg X.env :: (assignEach ts X.env).map (·.2) := by rfl) : PGsm X (tg :: ts) (gCons g gs) (ss ++ ss') := by
  refine ⟨PGs_imp (pgs_cons h1 h2.pg hs) fun vs σ H Q ⟨w, μ, φ, ds, φ', M, F, r, hg, k⟩ => ?_, fun ds φ μ φ' hg => ?_⟩
  · cases ds with
    | nil => cases hg
    | cons d ds =>
      obtain ⟨v, vr, e, rd, rr⟩ := r
      have hg' : ((g d φ μ).bind fun φ' => gs ds φ' μ) = some φ' := hg
      obtain ⟨φ1, e1, e2⟩ := Option.bind_eq_some_iff.mp hg'
      refine ⟨v, vr, e, w, μ, φ, d, φ1, M, F, rd, e1, fun σ1 F1 k1 n1 => ?_⟩
      refine ⟨w, μ, φ1, ds, φ', M, F1, rr, e2, fun σ2 F2 k2 n2 => k σ2 F2 (fun i hi => ?_) (n2.trans n1)⟩
      rw [List.mem_append] at hi
      exact (k2 i fun z => hi (.inr z)).trans (k1 i fun z => hi (.inl z))
  · cases ds with
    | nil => cases hg
    | cons d ds =>
      have hg' : ((g d φ μ).bind fun φ' => gs ds φ' μ) = some φ' := hg
      obtain ⟨φ1, e1, e2⟩ := Option.bind_eq_some_iff.mp hg'
      rw [List.length_cons, List.length_cons, h2.len _ _ _ _ e2]
theorem PG_or {tg : Expr} {t t' : TG} (h : PG X tg t) (h' : PG X tg t') : PG X tg (fun v σ H Q => t v σ H Q ∨ t' v σ H Q) := ⟨fun pins s σ H v u Q I r q => q.elim (h.run pins s σ H v u Q I r) (h'.run pins s σ H v u Q I r)⟩
theorem gm_tup {es : List Expr} {k : Nat} {gs : GsM} {ss : List Nat} (hc : X.calm = true) (h : PGsm X es gs ss) (hn : (assignEach es X.env).length = es.length := by rfl) (hst : (assignEach es X.env).findIdx? (·.1) = none := by rfl) : PGm X (.Tuple es k pos) (gTup gs) ss :=
  PG_imp (PG_or (pg_tup hc h.pg hn hst) (pg_lst hc h.pg hn hst)) fun v σ H Q ⟨w, μ, φ, d, φ', M, F, r, hg, k⟩ => by
  cases d with
  | tup ds =>
    obtain ⟨a, vs, e, f, rr⟩ := r
    exact .inl ⟨a, vs, e, SqT.of (M.fz _ _ f), rr.length.symm.trans (h.len _ _ _ _ hg), w, μ, φ, ds, φ', M, F, rr, hg, k⟩
  | lst ds =>
    obtain ⟨a, vs, e, f, rr⟩ := r
    exact .inr ⟨a, vs, e, SqL.of (M.fz _ _ f), rr.length.symm.trans (h.len _ _ _ _ hg), w, μ, φ, ds, φ', M, F, rr, hg, k⟩
  | rol ds =>
    obtain ⟨a, vs, e, f, rr⟩ := r
    exact .inr ⟨a, vs, e, sql_mono M.fz f, rr.length.symm.trans (h.len _ _ _ _ hg), w, μ, φ, ds, φ', M, F, rr, hg, k⟩
  | _ => cases hg
theorem sm_asg {tg : Expr} {g : GM} {ss : List Nat} (he : PEm X W e m) (hg : PGm X tg g ss) (hs : swapsWithSole [tg] e pos.line X.env = pure false := by rfl) (hw : swappedStores [tg] e X.env = pure none := by rfl)
    (h1 : (assignEach [tg] X.env).map (·.2) = [assign tg X.env] := by rfl) : PSm X W (.Assign [tg] e pos) (sAsg g m) := PS_imp (ps_asg he hg hs hw h1) fun D σ H ⟨w, μ, φ, M, F, h⟩ =>
  tS_seqE M F h fun w1 μ1 a v H1 l1 M1 F1 r1 h1 => by
    cases q : g a φ μ1 with
    | none => rw [q] at h1; exact h1.elim
    | some φ' =>
      rw [q] at h1
      exact ⟨w1, μ1, φ, a, φ', M1, F1, r1, q, fun σ' F' _ _ => PostS.nx_ok h1 M1 F'⟩

/-! ### what is walked -/
structure Pres (K : PySem.W.Frag) (mg : Str → Option Value) (w : Wd) (ds : List D) (J : It) : Prop where
  stop : ∀ w' H' μ, Le w w' → Mt K mg w' H' μ → J.stop ds.length H'
  go : ∀ (i : Nat) d, ds[i]? = some d → ∀ w' H' μ, Le w w' → Mt K mg w' H' μ → J.go i H' ∧ ∀ x H'', J.yld i H' x H'' → ∃ w'', Le w' w'' ∧ Mt K mg w'' H'' μ ∧ Rep K mg w'' d x
theorem Pres.le {K : PySem.W.Frag} {mg : Str → Option Value} {w w' : Wd} {ds : List D} {J : It} (l : Le w w') (p : Pres K mg w ds J) : Pres K mg w' ds J :=
  ⟨fun w2 H' μ l' M => p.stop w2 H' μ (l.trans l') M, fun i d h w2 H' μ l' M => p.go i d h w2 H' μ (l.trans l') M⟩
abbrev tI (K : PySem.W.Frag) (mg : Str → Option Value) (W : WX) (m : IM) : TI := tG K mg (Pres K mg) W m
abbrev PIm (X : Cx) (W : WX) (tg iter : Expr) (m : IM) : Prop := PI X tg iter (tI X.K X.mg W m)
theorem pres_l {K : PySem.W.Frag} {mg : Str → Option Value} {w : Wd} {ds : List D} {vs : List V} {a : Addr} (f : SqL K w.F a vs) (r : Reps K mg w ds vs) : Pres K mg w ds (Itl K a) := by
  refine ⟨fun w' H' μ l M => ⟨vs, sql_mono M.fz (sql_mono l.fz f), by rw [r.length]; exact Nat.le_refl _⟩, fun i d h w' H' μ l M => ?_⟩
  obtain ⟨v, hv, rv⟩ := r.get h
  have s := sql_mono M.fz (sql_mono l.fz f)
  refine ⟨⟨vs, v, s, hv⟩, fun x H'' y => ?_⟩
  obtain ⟨e, y⟩ := y
  subst e
  have e2 := (y vs s).symm.trans hv
  cases e2
  exact ⟨w', Le.refl _, M, rv.mono l⟩
theorem pres_t {K : PySem.W.Frag} {mg : Str → Option Value} {w : Wd} {ds : List D} {vs : List V} {a : Addr} (f : SqT K w.F a vs) (r : Reps K mg w ds vs) : Pres K mg w ds (Itt K a) := by
  refine ⟨fun w' H' μ l M => ⟨vs, sqt_mono M.fz (sqt_mono l.fz f), by rw [r.length]; exact Nat.le_refl _⟩, fun i d h w' H' μ l M => ?_⟩
  obtain ⟨v, hv, rv⟩ := r.get h
  have s := sqt_mono M.fz (sqt_mono l.fz f)
  refine ⟨⟨vs, v, s, hv⟩, fun x H'' y => ?_⟩
  obtain ⟨e, y⟩ := y
  subst e
  have e2 := (y vs s).symm.trans hv
  cases e2
  exact ⟨w', Le.refl _, M, rv.mono l⟩
theorem pres_s {K : PySem.W.Frag} {mg : Str → Option Value} {w : Wd} {s : Str} : Pres K mg w (s.cps.toList.map fun c => .str ⟨#[c]⟩) (Its s) := by
  refine ⟨fun w' H' μ l M => by show s.cps.size ≤ _; simp, fun i d h w' H' μ l M => ?_⟩
  rw [List.getElem?_map] at h
  obtain ⟨c, hc, hd⟩ := Option.map_eq_some_iff.mp h
  have hc' : s.cps[i]? = some c := by rw [← hc]; simp
  have hi : i < s.cps.size := (Array.getElem?_eq_some_iff.mp hc').1
  refine ⟨hi, fun x H'' y => ?_⟩
  obtain ⟨e, c2, e2, e3⟩ := y
  subst e
  rw [hc'] at e2
  cases e2
  subst hd
  exact ⟨w', Le.refl _, M, e3⟩
theorem im_of {tg : Expr} (h : PEm X W e m) : PIm X W tg e (iOf m) := PI_imp (PI_or (pi_list h) (PI_or (pi_tup h) (pi_str h))) fun σ H R ⟨w, μ, φ, M, F, h⟩ => by
  have key : ∀ w1 μ1 x vx H1, Le w w1 → Mt X.K X.mg w1 H1 μ1 → Fm X.K X.mg w1 σ φ → Rep X.K X.mg w1 x vx → Post X.K X.mg (Pres X.K X.mg) w1 W σ R (match items x with | some ds => .ok ds μ1 | none => .no) →
      (∃ a, vx = .ref a ∧ (∃ xs, SqL X.K H1 a xs) ∧ R (Itl X.K a) H1) ∨ (∃ a, vx = .ref a ∧ (∃ xs, SqT X.K H1 a xs) ∧ R (Itt X.K a) H1) ∨ (∃ s, vx = .str s ∧ R (Its s) H1) := by
    intro w1 μ1 x vx H1 l1 M1 F1 r1 h1
    cases x with
    | tup ds =>
      obtain ⟨a, vs, e, f, r⟩ := r1
      exact .inr (.inl ⟨a, e, ⟨vs, SqT.of (M1.fz _ _ f)⟩, Post.ok (b := Itt X.K a) h1 M1 (pres_t (SqT.of f) r)⟩)
    | lst ds =>
      obtain ⟨a, vs, e, f, r⟩ := r1
      exact .inl ⟨a, e, ⟨vs, SqL.of (M1.fz _ _ f)⟩, Post.ok (b := Itl X.K a) h1 M1 (pres_l (SqL.of f) r)⟩
    | rol ds =>
      obtain ⟨a, vs, e, f, r⟩ := r1
      exact .inl ⟨a, e, ⟨vs, sql_mono M1.fz f⟩, Post.ok (b := Itl X.K a) h1 M1 (pres_l f r)⟩
    | str s => exact .inr (.inr ⟨s, r1, Post.ok (b := Its s) h1 M1 pres_s⟩)
    | _ => exact h1.elim
  cases q : m φ μ with
  | ok x μ1 =>
    have h' : Post X.K X.mg (Pres X.K X.mg) w W σ R (match items x with | some ds => .ok ds μ1 | none => .no) := by
      have z := h
      unfold iOf at z
      rw [q] at z
      exact z
    have go : ∀ {P : V → Hp → Prop}, (∀ w1 vx H1, Le w w1 → Mt X.K X.mg w1 H1 μ1 → Rep X.K X.mg w1 x vx → P vx H1) → tE X.K X.mg W m σ H P := fun {P} hP => ⟨w, μ, φ, M, F, by rw [q]; exact fun w1 H1 vx l1 M1 r1 => hP w1 vx H1 l1 M1 r1⟩
    cases x with
    | tup ds =>
      refine .inr (.inl (go fun w1 vx H1 l1 M1 r1 => ?_))
      obtain ⟨a, vs, e, f, r⟩ := r1
      exact ⟨a, e, ⟨vs, SqT.of (M1.fz _ _ f)⟩, Post.ok (b := Itt X.K a) (Post.le l1 h') M1 (pres_t (SqT.of f) r)⟩
    | lst ds =>
      refine .inl (go fun w1 vx H1 l1 M1 r1 => ?_)
      obtain ⟨a, vs, e, f, r⟩ := r1
      exact ⟨a, e, ⟨vs, SqL.of (M1.fz _ _ f)⟩, Post.ok (b := Itl X.K a) (Post.le l1 h') M1 (pres_l (SqL.of f) r)⟩
    | rol ds =>
      refine .inl (go fun w1 vx H1 l1 M1 r1 => ?_)
      obtain ⟨a, vs, e, f, r⟩ := r1
      exact ⟨a, e, ⟨vs, sql_mono M1.fz f⟩, Post.ok (b := Itl X.K a) (Post.le l1 h') M1 (pres_l f r)⟩
    | str s =>
      refine .inr (.inr (go fun w1 vx H1 l1 M1 r1 => ?_))
      exact ⟨s, r1, Post.ok (b := Its s) (Post.le l1 h') M1 pres_s⟩
    | _ => exact h'.elim
  | er c μ1 =>
    have z := h
    unfold iOf at z
    rw [q] at z
    exact .inl ⟨w, μ, φ, M, F, by rw [q]; exact z⟩
  | no =>
    have z := h
    unfold iOf at z
    rw [q] at z
    exact z.elim
theorem pres_r {K : PySem.W.Frag} {mg : Str → Option Value} {w : Wd} {lo : Int} {n : Nat} : Pres K mg w (rangeD lo n) (Itr lo n) := by
  unfold rangeD
  refine ⟨fun w' H' μ l M => by show n ≤ _; simp, fun i d h w' H' μ l M => ?_⟩
  rw [List.getElem?_map] at h
  obtain ⟨c, hc, hd⟩ := Option.map_eq_some_iff.mp h
  obtain ⟨hi, hc'⟩ := List.getElem?_eq_some_iff.mp hc
  rw [List.length_range] at hi
  rw [List.getElem_range] at hc'
  subst hc' hd
  refine ⟨hi, fun x H'' y => ?_⟩
  obtain ⟨e, e2⟩ := y
  subst e
  exact ⟨w', Le.refl _, M, e2⟩
theorem im_range1 {tg a : Expr} {am : AM} {p : Pos} (ha : PAm X W [a] am) (hm : X.mg "range" = none) (hg : Gl X "range" := by rfl) (hs : starEach [a] X.env = [(false, eval a X.env)] := by rfl) : PIm X W tg (.Call (.Name "range" p) [a] [] pos) (iRange am) :=
  PI_imp (pi_range1 hg hm ha.pa hs) fun σ H R ⟨w, μ, φ, M, F, h⟩ => by
  refine ⟨w, μ, φ, M, F, ?_⟩
  unfold iRange at h
  cases q : am φ μ with
  | ok xs μ1 =>
    rw [q] at h
    have hl := ha.len φ μ xs μ1 q
    intro w1 H1 vs l1 M1 r1
    have h := Post.le l1 h
    match xs, hl, h, r1 with
    | [x], _, h, r1 =>
      obtain ⟨v, r, e, rv, rn⟩ := r1
      cases rn
      subst e
      cases x with
      | int n =>
        cases rv
        have h : Post X.K X.mg (Pres X.K X.mg) w1 W σ R (if -(cap : Int) ≤ n ∧ n ≤ (cap : Int) then .ok (rangeD 0 n.toNat) μ1 else .no) := h
        have hcap : (cap : Int) = 1000000 := rfl
        by_cases hn : -(cap : Int) ≤ n ∧ n ≤ (cap : Int)
        · rw [if_pos hn] at h
          exact ⟨n, rfl, by omega, by omega, Post.ok (b := Itr 0 n.toNat) h M1 pres_r⟩
        · rw [if_neg hn] at h
          exact h.elim
      | _ => exact h.elim
  | er c μ1 => rw [q] at h; exact h
  | no => rw [q] at h; exact h.elim
end
end Mp

namespace Mp
open PySem PySem.Spec PyProof.Rows L2

/-! ### for -/
section
variable {X : Cx} {W : WX} {tg iter e c : Expr} {body : List Stmt} {im : IM} {g : GM} {ss : List Nat} {mb : SM} {pos : Pos}
theorem sm_for (kill : List Nat) (hp : PassesOwn (model X.prog X.w) X.A X.env X.xe) (hc : X.calm = true) (hi : PIm X W tg iter im) (hg : PGm X tg g ss) (hb : PSsm X W body mb)
    (hs : ∀ x, foldedSetIterable iter X.env x = pure x := by intro _; rfl) : PSm X W (.For tg iter body [] pos) (sFor im g kill mb) := PS_imp (ps_for hp hc hi hg hb hs) fun D σ H ⟨w, μ, φ, M, F, h⟩ =>
  tS_seqE M F h fun w1 μ1 ds J H1 l1 M1 F1 P1 h1 => by
    refine ⟨fun i m σ' H' => m = ds.length - i ∧ i ≤ ds.length ∧ ∃ w' φ' μ', Le w1 w' ∧ Mt X.K X.mg w' H' μ' ∧ Fm X.K X.mg w' σ' φ' ∧ PostS X.K X.mg w' W D (forL g kill mb (ds.drop i) φ' μ'),
      ⟨_, rfl, Nat.zero_le _, w1, _, μ1, Le.refl _, M1, F1.wipe kill, h1⟩, ?_⟩
    rintro i m σ' H' ⟨rfl, hle, w', φ', μ', l', M', F', h'⟩
    by_cases hlt : i < ds.length
    · have hd : ds[i]? = some ds[i] := List.getElem?_eq_getElem hlt
      obtain ⟨go, yl⟩ := P1.go i _ hd w' H' μ' l' M'
      rw [List.drop_eq_getElem_cons hlt] at h'
      generalize ds[i] = d at hd h' yl
      refine .inr ⟨go, fun σ2 H2 => (fun i m σ' H' => m = ds.length - i ∧ i ≤ ds.length ∧ ∃ w' φ' μ', Le w1 w' ∧ Mt X.K X.mg w' H' μ' ∧ Fm X.K X.mg w' σ' φ' ∧ PostS X.K X.mg w' W D (forL g kill mb (ds.drop i) φ' μ')) (i + 1) (ds.length - (i + 1)) σ2 H2,
        fun σ2 H2 q => ⟨_, by omega, q⟩, fun x H2 y => ?_⟩
      obtain ⟨w2, l2, M2, r2⟩ := yl x H2 y
      unfold forL at h'
      cases q : g d φ' μ' with
      | none => rw [q] at h'; exact h'.elim
      | some φ2 =>
        rw [q] at h'
        dsimp only at h'
        refine ⟨w2, μ', φ', d, φ2, M2, F'.mono l2, r2, q, fun σ2 F2 _ _ => ⟨w2, μ', φ2, M2, F2, ?_⟩⟩
        have h' := PostS.le l2 h'
        have again : ∀ φ3 μ3, PostS X.K X.mg w2 W D (forL g kill mb (ds.drop (i + 1)) (wipeF φ3 kill) μ3) → ∀ w3 σ3 H3, Le w2 w3 → Mt X.K X.mg w3 H3 μ3 → Fm X.K X.mg w3 σ3 φ3 →
            (ds.length - (i + 1) = ds.length - (i + 1) ∧ i + 1 ≤ ds.length ∧ ∃ w' φ' μ', Le w1 w' ∧ Mt X.K X.mg w' H3 μ' ∧ Fm X.K X.mg w' σ3 φ' ∧ PostS X.K X.mg w' W D (forL g kill mb (ds.drop (i + 1)) φ' μ')) :=
          fun φ3 μ3 hp w3 σ3 H3 l3 M3 F3 => ⟨rfl, hlt, w3, _, μ3, (l'.trans l2).trans l3, M3, F3.wipe kill, PostS.le l3 hp⟩
        cases e : mb φ2 μ' with
        | nx φ3 μ3 => rw [e] at h'; exact again φ3 μ3 h'
        | ct φ3 μ3 => rw [e] at h'; exact again φ3 μ3 h'
        | bk φ3 μ3 => rw [e] at h'; exact fun w3 σ3 H3 l3 M3 F3 => h' w3 σ3 H3 l3 M3 (F3.wipe kill)
        | rt d μ3 => rw [e] at h'; exact h'
        | er c φ3 μ3 => rw [e] at h'; exact h'
        | no => rw [e] at h'; exact h'
    · have e : i = ds.length := by omega
      subst e
      rw [List.drop_length] at h'
      exact .inl ⟨P1.stop w' H' μ' l' M', PostS.nx_ok h' M' F'⟩
end

/-! ### comprehensions -/
abbrev WF : WX := fun _ _ _ _ => False
section
variable {X : Cx} {W : WX} {tg iter elt : Expr} {ifs : List Expr} {scope : Scope} {own : List (Str × Nat)} {im : IM} {g : GM} {ss : List Nat} {mt : TM} {me : EM} {pos : Pos}
structure PTsm (X : Cx) (W : WX) (ifs : List Expr) (m : TM) : Prop where
  pt : PTs X ifs (tT X.K X.mg W m)
theorem tms_nil : PTsm X W [] Mp.tYes := ⟨⟨fun pins s σ H Q I ⟨w, μ, φ, M, F, h⟩ => pts_nil.run pins s σ H Q I (Post.ok (b := true) h M rfl)⟩⟩
theorem tms_one {c : Expr} {m : TM} (h : PTm X W c m) : PTsm X W [c] m := ⟨pts_one h⟩
theorem wipe_same {σ σ' : L2.St} {vs : List Nat} (hl : σ'.length = σ.length) (h : ∀ i, i ∉ vs → σ'[i]? = σ[i]?) : L2.wipe σ' vs = L2.wipe σ vs := by
  have len : ∀ (σ : L2.St), (L2.wipe σ vs).length = σ.length := fun σ => wipe_length σ vs
  have off : ∀ (vs : List Nat) (σ : L2.St) (i : Nat), i ∈ vs → i < σ.length → (L2.wipe σ vs)[i]? = some none := by
    intro vs
    induction vs with
    | nil => intro σ i hi; cases hi
    | cons v vs ih =>
      intro σ i hi hl
      unfold L2.wipe
      by_cases hv : v = i
      · subst hv
        rw [List.getElem?_set_self (by rw [wipe_length]; exact hl)]
      · rw [List.getElem?_set_ne hv]
        rcases List.mem_cons.mp hi with e | hi
        · exact absurd e.symm hv
        · exact ih σ i hi hl
  refine List.ext_getElem? fun i => ?_
  by_cases hi : i ∈ vs
  · by_cases hb : i < σ.length
    · rw [off vs σ' i hi (by rw [hl]; exact hb), off vs σ i hi hb]
    · rw [List.getElem?_eq_none (by rw [len, hl]; omega), List.getElem?_eq_none (by rw [len]; omega)]
  · rw [wipe_at hi, wipe_at hi]
    exact h i hi
/-- what the rule of a comprehension asks -/
theorem lc_asks (hss : ∀ i ∈ ss, i ∈ own.map (·.2)) (σ : L2.St) (H : Hp) (Q : VK) (h : tE X.K X.mg W (eComp im g (own.map (·.2)) mt me) σ H Q) :
    tLc (tI X.K X.mg W im) (GV X.K X.mg g ss) (tT X.K X.mg WF mt) (tE X.K X.mg WF me) (own.map (·.2)) σ H Q := by
  obtain ⟨w, μ, φ, M, F, h⟩ := h
  refine tG_seq M F h fun w1 μ1 ds J H1 l1 M1 F1 P1 h1 => fun Dd hD => ?_
  generalize hvs : own.map (·.2) = vs at hss h1 ⊢
  obtain ⟨M2, l2⟩ := M1.newL (ds := []) (vs := []) hD Reps.nil
  have hn2 : (⟨w1.α ++ [Dd], w1.F⟩ : Wd).α[μ1.length]? = some Dd := by
    show (w1.α ++ [Dd])[μ1.length]? = some Dd
    rw [← M1.len, List.getElem?_append_right (Nat.le_refl _), Nat.sub_self]
    rfl
  have hm2 : (μ1 ++ [Ob.lst []])[μ1.length]? = some (.lst []) := by
    rw [List.getElem?_append_right (Nat.le_refl _), Nat.sub_self]
    rfl
  generalize (⟨w1.α ++ [Dd], w1.F⟩ : Wd) = w2 at M2 l2 hn2
  generalize hμ2 : μ1 ++ [Ob.lst []] = μ2 at M2 hm2 h1
  generalize upd H1 Dd (.lst []) = H2 at M2
  generalize hL : compL g vs mt me φ μ1.length ds μ2 = L at h1
  refine ⟨fun i m H' => m = ds.length - i ∧ i ≤ ds.length ∧ ∃ w' μ', Le w2 w' ∧ Mt X.K X.mg w' H' μ' ∧ L = compL g vs mt me φ μ1.length (ds.drop i) μ',
    ⟨_, rfl, Nat.zero_le _, w2, μ2, Le.refl _, M2, hL.symm⟩, ?_⟩
  rintro i m H' ⟨rfl, hle, w', μ', l', M', e'⟩
  have hα : ∀ {w3 : Wd}, Le w2 w3 → w3.α[μ1.length]? = some Dd := fun l => l.at hn2
  by_cases hlt : i < ds.length
  · have hd : ds[i]? = some ds[i] := List.getElem?_eq_getElem hlt
    obtain ⟨go, yl⟩ := P1.go i _ hd w' H' μ' ((l2.trans l')) M'
    rw [List.drop_eq_getElem_cons hlt] at e'
    generalize ds[i] = d at hd e' yl
    refine .inr ⟨go, fun H' => (fun i m H' => m = ds.length - i ∧ i ≤ ds.length ∧ ∃ w' μ', Le w2 w' ∧ Mt X.K X.mg w' H' μ' ∧ L = compL g vs mt me φ μ1.length (ds.drop i) μ') (i + 1) (ds.length - (i + 1)) H',
      fun H' q => ⟨_, by omega, q⟩, fun x H3 y => ?_⟩
    obtain ⟨w3, l3, M3, r3⟩ := yl x H3 y
    unfold compL at e'
    cases q : g d (wipeF φ vs) μ' with
    | none =>
      rw [q] at e'
      dsimp only at e'
      rw [e'] at h1
      exact h1.elim
    | some φ3 =>
      rw [q] at e'
      dsimp only at e'
      have F3 : Fm X.K X.mg w3 (L2.wipe σ vs) (wipeF φ vs) := (F1.mono ((l2.trans l').trans l3)).wipe2 vs
      refine ⟨w3, μ', wipeF φ vs, d, φ3, M3, F3, r3, q, fun σ3 F3' k3 n3 => ⟨?_, w3, μ', φ3, M3, F3', ?_⟩⟩
      · refine wipe_same (n3.trans (wipe_length σ vs)) fun j hj => ?_
        rw [k3 j fun z => hj (hss j z), wipe_at hj]
      · cases qt : mt φ3 μ' with
        | ok c μ4 =>
          rw [qt, R.bind_ok] at e'
          intro w4 H4 b l4 M4 rb
          cases rb
          cases c with
          | false =>
            rw [if_neg Bool.false_ne_true] at e'
            show (if false = true then _ else _)
            rw [if_neg Bool.false_ne_true]
            exact ⟨rfl, hlt, w4, μ4, (l'.trans l3).trans l4, M4, e'⟩
          | true =>
            rw [if_pos rfl] at e'
            show (if true = true then _ else _)
            rw [if_pos rfl]
            refine ⟨w4, μ4, φ3, M4, F3'.mono l4, ?_⟩
            cases qe : me φ3 μ4 with
            | ok x5 μ5 =>
              rw [qe, R.bind_ok] at e'
              intro w5 H5 v5 l5 M5 r5
              have hα5 : w5.α[μ1.length]? = some Dd := hα (((l'.trans l3).trans l4).trans l5)
              cases qn : μ5[μ1.length]? with
              | none =>
                rw [qn] at e'
                dsimp only at e'
                rw [e'] at h1
                exact h1.elim
              | some ob =>
                rw [qn] at e'
                cases ob with
                | dead =>
                  dsimp only at e'
                  rw [e'] at h1
                  exact h1.elim
                | lst acc =>
                  dsimp only at e'
                  by_cases hz : acc.length < cap
                  · rw [if_pos hz] at e'
                    obtain ⟨vs5, hH, _, rr⟩ := M5.ob _ _ _ hα5 qn
                    refine ⟨vs5, hH, by rw [← rr.length]; exact Nat.lt_of_lt_of_le hz cap_size, rfl, hlt, w5, _, ((l'.trans l3).trans l4).trans l5, M5.setL hα5 qn (rr.append (Reps.cons r5 Reps.nil)), e'⟩
                  · rw [if_neg hz] at e'
                    rw [e'] at h1
                    exact h1.elim
            | er c5 μ5 =>
              rw [qe, R.bind_er] at e'
              rw [e'] at h1
              exact h1.elim
            | no =>
              rw [qe, R.bind_no] at e'
              rw [e'] at h1
              exact h1.elim
        | er c μ4 =>
          rw [qt, R.bind_er] at e'
          rw [e'] at h1
          exact h1.elim
        | no =>
          rw [qt, R.bind_no] at e'
          rw [e'] at h1
          exact h1.elim
  · have e : i = ds.length := by omega
    subst e
    rw [List.drop_length] at e'
    rw [e'] at h1
    unfold compL compEnd at h1
    dsimp only at h1
    cases qn : μ'[μ1.length]? with
    | none => rw [qn] at h1; exact h1.elim
    | some ob =>
      rw [qn] at h1
      cases ob with
      | dead => exact h1.elim
      | lst xs =>
        dsimp only at h1
        by_cases hz : μ'.take μ1.length = μ1 ∧ los μ1.length xs = true
        · rw [if_pos hz] at h1
          obtain ⟨w3, l3, M3, r3⟩ := M'.freeze (hα l') qn
          have l13 : Le w1 w3 := (l2.trans l').trans l3
          have ht : (μ'.set μ1.length .dead).take μ1.length = μ1 := by
            rw [List.take_set_of_le (Nat.le_refl _)]
            exact hz.1
          obtain ⟨M4, l4, cut⟩ := Mt.cut M1 M3 l13 ht
          exact .inl ⟨P1.stop w' H' μ' (l2.trans l') M', h1 _ H' (.ref Dd) l4 M4 (cut _ _ (by simpa [D.lo] using hz.2) r3)⟩
        · rw [if_neg hz] at h1
          exact h1.elim
theorem em_comp (hc : X.calm = true) (hN : X.N.Nodup) (hi : PIm X W tg iter im) (ok : BlkOk X.N X.env.scope scope own)
    (hg : ∀ (s : Shared) (H : Hp) (C : Addr) (cl : List (Str × Addr)) (fp : List Addr), PGm (X.blk s H scope (compEnvC scope cl C X.env) fp) tg g ss) (ht : ∀ (s : Shared) (H : Hp) (C : Addr) (cl : List (Str × Addr)) (fp : List Addr), PTsm (X.blk s H scope (compEnvC scope cl C X.env) fp) WF ifs mt)
    (he : ∀ (s : Shared) (H : Hp) (C : Addr) (cl : List (Str × Addr)) (fp : List Addr), PEm (X.blk s H scope (compEnvC scope cl C X.env) fp) WF elt me) (hss : ∀ i ∈ ss, i ∈ own.map (·.2) := by decide) (hs : ∀ x, foldedSetIterable iter X.env x = pure x := by intro _; rfl) :
    PEm X W (.ListComp elt [⟨tg, iter, ifs, 0⟩] scope pos) (eComp im g (own.map (·.2)) mt me) :=
  PE_imp (pe_lc hc hN hi ok hg (fun s H C cl fp => (ht s H C cl fp).pt) he hs) (lc_asks hss)
theorem sm_setLc (i : Nat) {y : Str} {py spos : Pos} (hc : X.calm = true) (hN : X.N.Nodup) (hyl : X.env.scope.names.lookup y = some .local)
    (hsw : swapsWith (.ListComp elt [⟨tg, iter, ifs, 0⟩] scope pos) (some (.Name y py)) spos.line X.env = pure true) (hi : PIm X W tg iter im) (ok : BlkOk X.N X.env.scope scope own)
    (hg : ∀ (s : Shared) (H : Hp) (C : Addr) (cl : List (Str × Addr)) (fp : List Addr), PGm (X.blk s H scope (compEnvC scope cl C X.env) fp) tg g ss) (ht : ∀ (s : Shared) (H : Hp) (C : Addr) (cl : List (Str × Addr)) (fp : List Addr), PTsm (X.blk s H scope (compEnvC scope cl C X.env) fp) WF ifs mt)
    (he : ∀ (s : Shared) (H : Hp) (C : Addr) (cl : List (Str × Addr)) (fp : List Addr), PEm (X.blk s H scope (compEnvC scope cl C X.env) fp) WF elt me) (hy : X.N[i]? = some y := by rfl) (hss : ∀ i ∈ ss, i ∈ own.map (·.2) := by decide) (hs : ∀ x, foldedSetIterable iter X.env x = pure x := by intro _; rfl) :
    PSm X W (.Assign [.Name y py] (.ListComp elt [⟨tg, iter, ifs, 0⟩] scope pos) spos) (sSet i (eComp im g (own.map (·.2)) mt me)) :=
  PS_imp (ps_setLc hc hN hy hyl hsw hi ok hg (fun s H C cl fp => (ht s H C cl fp).pt) he hs) fun D σ H ⟨w, μ, φ, M, F, h⟩ =>
    lc_asks hss σ H _ (tS_seqE M F h fun w1 μ1 a v H1 l1 M1 F1 r1 h1 => PostS.nx_ok h1 M1 (F1.set r1))
end
end Mp

namespace Mp
open PySem PySem.Spec PyProof.Rows L2

/-! ### defs and their calls -/
/-- a def's promise: it does what fm tells -/
def spF (K : PySem.W.Frag) (mg : Str → Option Value) (fm : FM) (n : Nat) : Sp := fun vs H Q E => vs.length = n ∧ ∃ w μ ds, Mt K mg w H μ ∧ Reps K mg w ds vs ∧ Post K mg (Rep K mg) w (fun cls d _ H => E cls d H) [] Q (fm ds μ)
structure FnM (P : Program) (w : World) (K : PySem.W.Frag) (mg : Str → Option Value) (base : Heap) (k : Nat) (x : Str) (n : Nat) (fm : FM) : Prop where
  ex : ∃ f fd ps, mg x = some (.ref f) ∧ PySem.W.keepIn K (.ref f) = true ∧ Binds K fd ps [] ∧ ps.length = n ∧ FnOk P w K mg base (L2.CX P w) k f fd ps (spF K mg fm n)
theorem FnM.mono {P : Program} {w : World} {K : PySem.W.Frag} {mg : Str → Option Value} {base : Heap} {j k : Nat} {x : Str} {n : Nat} {fm : FM} (F : FnM P w K mg base j x n fm) (h : j ≤ k) : FnM P w K mg base k x n fm :=
  let ⟨f, fd, ps, h1, h2, h3, h4, h5⟩ := F.ex
  ⟨f, fd, ps, h1, h2, h3, h4, h5.mono h⟩
/-- what callees may let out is taken -/
def Psv (X : Cx) (W : WX) : Prop := ∀ σ, PassesAt (L2.CX X.prog X.w) X σ (WE W σ)
theorem psv_of {X : Cx} {W : WX} (tk : Takes X W) : Psv X W := fun σ => passAt tk σ
theorem psv_f {X : Cx} : Psv X WF := fun σ _ _ _ _ _ _ h => by
  obtain ⟨_, _, _, _, _, _, _, _, _, _, _, _, z⟩ := h
  exact z.elim
section
variable {X : Cx} {W : WX} {e : Expr} {es : List Expr} {am : AM} {pos p : Pos} {k k' n : Nat} {x : Str} {fm : FM}
theorem sp_of {sp : Sp} {am : AM} (ha : PAm X W es am) (hl : es.length = n) (hsp : ∀ vs H Q E, spF X.K X.mg fm n vs H Q E → sp vs H Q E) (σ : L2.St) (H : Hp) (Q : VK) (h : tE X.K X.mg W (eFn fm am) σ H Q) : tA X.K X.mg W am σ H fun vs H1 => sp vs H1 Q (WE W σ) := by
  obtain ⟨w, μ, φ, M, F, h⟩ := h
  refine tG_args ha M F h fun w1 μ1 xs vs H1 l1 M1 F1 r1 n1 h1 => hsp _ _ _ _ ⟨by rw [← r1.length, n1, hl], w1, μ1, xs, M1, r1, ?_⟩
  cases q : fm xs μ1 with
  | ok a μ2 => rw [q] at h1; exact h1
  | er c μ2 => rw [q] at h1; exact h1
  | no => rw [q] at h1; exact h1
theorem em_call (Fn : FnM X.prog X.w X.K X.mg X.base k x n fm) (hr : Room k' X.A) (hx : Psv X W) (ha : PAm X W (e :: es) am) (hk : k ≤ k' := by decide) (hl : (e :: es).length = n := by rfl) (hg : Gl X x := by rfl) (hdb : (x == ("__debug__" : Str)) = false := by decide)
    (he : starEach (e :: es) X.env = (false, eval e X.env) :: starEach es X.env := by rfl) (hpl : (backTo pos (starEach es X.env)).any (·.1) = false := by rfl) : PEm X W (.Call (.Name x p) (e :: es) [] pos) (eFn fm am) := by
  obtain ⟨f, fd, ps, h1, h2, h3, h4, h5⟩ := Fn.ex
  refine PE_imp (pe_callS h5 (hr.mono hk) hg h1 h2 h3 hx ha.pa hdb he hpl) fun σ H Q h => ?_
  exact sp_of ha hl (fun _ _ _ _ z => z) σ H Q h
end
section
variable {P : Program} {w : World} {K : PySem.W.Frag} {mg : Str → Option Value} {base : Heap}
theorem Reps.start {wd : Wd} : ∀ {ds : List D} {vs : List V} {n : Nat}, Reps K mg wd ds vs → Fm K mg wd (vs.map some ++ List.replicate n none) (ds.map some ++ List.replicate n none) := fun {ds vs n} r => by
  refine ⟨by rw [List.length_append, List.length_append, List.length_map, List.length_map, r.length]; simp, fun i d h => ?_⟩
  by_cases hi : i < ds.length
  · rw [List.getElem?_append_left (by rw [List.length_map]; exact hi), List.getElem?_map] at h
    obtain ⟨d', e1, e2⟩ := Option.map_eq_some_iff.mp h
    cases e2
    obtain ⟨v, hv, rv⟩ := r.get e1
    refine ⟨v, ?_, rv⟩
    rw [List.getElem?_append_left (by rw [List.length_map, ← r.length]; exact hi), List.getElem?_map, hv]
    rfl
  · rw [List.getElem?_append_right (by rw [List.length_map]; omega), List.getElem?_replicate] at h
    split at h <;> cases h
/-- the context of a def's body -/
abbrev CxF (P : Program) (w : World) (K : PySem.W.Frag) (mg : Str → Option Value) (base : Heap) (N : List Str) (qual : Str) (st : Stmt) (f : Addr) (cdv : Value) (A : Around) (outer : List Env) (s : Shared) (H : Hp) (E : XK) : Cx :=
  cxOf (L2.CX P w) P w K mg base N qual (defScope st) f cdv A outer s H E
abbrev WD (E : XK) : WX := fun cls d _ H => E cls d H
theorem takesD {N : List Str} {qual : Str} {st : Stmt} {f : Addr} {cdv : Value} {A : Around} {outer : List Env} {s : Shared} {H : Hp} {E : XK} : Takes (CxF P w K mg base N qual st f cdv A outer s H E) (WD E) := takes_of rfl rfl rfl rfl
theorem passesD {N : List Str} {qual : Str} {st : Stmt} {f : Addr} {cdv : Value} {A : Around} {outer : List Env} {s : Shared} {H : Hp} {E : XK} : PassesOwn (model P w) (CxF P w K mg base N qual st f cdv A outer s H E).A (CxF P w K mg base N qual st f cdv A outer s H E).env (CxF P w K mg base N qual st f cdv A outer s H E).xe := passes_of rfl
/-- a body is shown -/
def Body (P : Program) (w : World) (K : PySem.W.Frag) (mg : Str → Option Value) (base : Heap) (N : List Str) (qual : Str) (st : Stmt) (k : Nat) (ms : SM) : Prop :=
  ∀ (f : Addr) (cdv : Value) (A : Around) (outer : List Env) (s : Shared) (H : Hp) (E : XK), Room k (A.deeper (envOfC qual (defScope st) s.heap.objs.size f cdv)) → PSsm (CxF P w K mg base N qual st f cdv A outer s H E) (WD E) (defBody st) ms
theorem spF_len {fm : FM} {n : Nat} {ps : List Str} (h : ps.length = n) : ∀ vs H Q E, spF K mg fm n vs H Q E → vs.length = ps.length := fun vs H Q E ⟨q, _⟩ => by rw [q, h]
theorem fn_raw {x qual : Str} {st : Stmt} {f : Addr} {fd : FuncData} {N ps : List Str} {k : Nat} {ms : SM} (Fu : Fun K x qual st f fd) (S : FnScope N ps (defScope st)) (hb : Body P w K mg base N qual st k ms) : FnOk P w K mg base (L2.CX P w) (k + 1) f fd ps (spF K mg (mDefR N.length ms) ps.length) := by
  refine Fu.okX S (spF_len rfl) fun cdv A outer s H vs Q E hr hsp => ⟨_, hb f cdv A outer s H E hr, ?_⟩
  obtain ⟨hl, wd, μ, ds, M, r, h⟩ := hsp
  have F := r.start (n := N.length - vs.length)
  refine ⟨wd, μ, _, M, F, ?_⟩
  have h : Post K mg (Rep K mg) wd (WD E) [] Q (mDefR N.length ms ds μ) := h
  unfold mDefR at h
  rw [r.length] at h
  cases q : ms (ds.map some ++ List.replicate (N.length - vs.length) none) μ with
  | nx φ μ1 => rw [q] at h; exact fun w' σ' H' l M' F' => h w' H' .non l M' rfl
  | rt d μ1 => rw [q] at h; exact fun w' H' v l M' rv => h w' H' v l M' rv
  | er c φ μ1 => rw [q] at h; exact fun w' σ' H' C l M' F' hc => h w' H' C l M' hc
  | bk φ μ1 => rw [q] at h; exact h.elim
  | ct φ μ1 => rw [q] at h; exact h.elim
  | no => rw [q] at h; exact h.elim
theorem fn_def {x qual : Str} {st : Stmt} {f : Addr} {fd : FuncData} {N ps : List Str} {k : Nat} {ms : SM} (Fu : Fun K x qual st f fd) (S : FnScope N ps (defScope st)) (hb : Body P w K mg base N qual st k ms) : FnOk P w K mg base (L2.CX P w) (k + 1) f fd ps (spF K mg (mDef N.length ms) ps.length) := by
  refine Fu.okX S (spF_len rfl) fun cdv A outer s H vs Q E hr hsp => ⟨_, hb f cdv A outer s H E hr, ?_⟩
  obtain ⟨hl, wd, μ, ds, M, r, h⟩ := hsp
  have F := r.start (n := N.length - vs.length)
  refine ⟨wd, μ, _, M, F, ?_⟩
  have h : Post K mg (Rep K mg) wd (WD E) [] Q (mDef N.length ms ds μ) := h
  unfold mDef at h
  rw [r.length] at h
  have go : ∀ {d : D} {μ1 : Sto}, Post K mg (Rep K mg) wd (WD E) [] Q (fin μ d μ1) → ∀ w' H' v, Le wd w' → Mt K mg w' H' μ1 → Rep K mg w' d v → Q v H' := fun {d μ1} h w' H' v l M' rv => by
    unfold fin at h
    split at h
    · rename_i c
      obtain ⟨M2, l2, cut⟩ := Mt.cut M M' l c.1
      exact h _ H' v l2 M2 (cut d v c.2 rv)
    · exact h.elim
  cases q : ms (ds.map some ++ List.replicate (N.length - vs.length) none) μ with
  | nx φ μ1 => rw [q] at h; exact fun w' σ' H' l M' F' => go h w' H' .non l M' rfl
  | rt d μ1 => rw [q] at h; exact fun w' H' v l M' rv => go h w' H' v l M' rv
  | er c φ μ1 =>
    rw [q] at h
    dsimp only at h
    split at h
    · rename_i c
      intro w' σ' H' C l M' F' hc
      obtain ⟨M2, l2, _⟩ := Mt.cut M M' l c
      exact h _ H' C l2 M2 hc
    · exact h.elim
  | bk φ μ1 => rw [q] at h; exact h.elim
  | ct φ μ1 => rw [q] at h; exact h.elim
  | no => rw [q] at h; exact h.elim
/-- a def of the text is such a function -/
theorem fnm_def {x qual : Str} {st : Stmt} {f : Addr} {fd : FuncData} {N ps : List Str} {k : Nat} {ms : SM} (Fu : Fun K x qual st f fd) (hm : mg x = some (.ref f)) (hbd : Binds K fd ps []) (S : FnScope N ps (defScope st)) (hb : Body P w K mg base N qual st k ms) :
    FnM P w K mg base (k + 1) x ps.length (mDef N.length ms) := ⟨f, fd, ps, hm, Fu.kp, hbd, rfl, fn_def Fu S hb⟩
theorem fnm_raw {x qual : Str} {st : Stmt} {f : Addr} {fd : FuncData} {N ps : List Str} {k : Nat} {ms : SM} (Fu : Fun K x qual st f fd) (hm : mg x = some (.ref f)) (hbd : Binds K fd ps []) (S : FnScope N ps (defScope st)) (hb : Body P w K mg base N qual st k ms) :
    FnM P w K mg base (k + 1) x ps.length (mDefR N.length ms) := ⟨f, fd, ps, hm, Fu.kp, hbd, rfl, fn_raw Fu S hb⟩
end
end Mp

namespace Mp
open PySem PySem.Spec PyProof.Rows L2

/-! ### values seen through the store -/
/-- a list, whatever its kind -/
def lstV (μ : Sto) : D → Option (List D)
  | .lst xs => some xs
  | .rol xs => some xs
  | .ref n => match μ[n]? with
    | some (.lst xs) => some xs
    | _ => none
  | _ => none
def tupV : D → Option (List D)
  | .tup xs => some xs
  | _ => none
section
variable {K : PySem.W.Frag} {mg : Str → Option Value} {w : Wd} {H : Hp} {μ : Sto} {x : D} {vx : V} {xs : List D}
theorem lstV_ok (M : Mt K mg w H μ) (r : Rep K mg w x vx) (h : lstV μ x = some xs) : ∃ a vs, vx = .ref a ∧ SqL K H a vs ∧ Reps K mg w xs vs := by
  cases x with
  | lst ys =>
    cases h
    obtain ⟨a, vs, e, f, rr⟩ := r
    exact ⟨a, vs, e, SqL.of (M.fz _ _ f), rr⟩
  | rol ys =>
    cases h
    obtain ⟨a, vs, e, f, rr⟩ := r
    exact ⟨a, vs, e, sql_mono M.fz f, rr⟩
  | ref n =>
    obtain ⟨a, e, ha⟩ := r
    unfold lstV at h
    dsimp only at h
    split at h
    · rename_i ys q
      cases h
      obtain ⟨vs, hH, _, rr⟩ := M.ob n a _ ha q
      exact ⟨a, vs, e, SqL.of hH, rr⟩
    · cases h
  | _ => cases h
theorem tupV_ok (M : Mt K mg w H μ) (r : Rep K mg w x vx) (h : tupV x = some xs) : ∃ a vs, vx = .ref a ∧ SqT K H a vs ∧ Reps K mg w xs vs := by
  cases x with
  | tup ys =>
    cases h
    obtain ⟨a, vs, e, f, rr⟩ := r
    exact ⟨a, vs, e, SqT.of (M.fz _ _ f), rr⟩
  | _ => cases h
end
/-! ### data, compared -/
mutual
def toPy : D → PyData
  | .non => .none
  | .bl b => .bool b
  | .int i => .int i
  | .str s => .str s
  | .tup xs => .tuple (toPys xs)
  | .lst xs => .list (toPys xs)
  | .rol xs => .list (toPys xs)
  | .ref _ => .none
  | .exc _ => .none
  | .fn _ => .none
def toPys : List D → List PyData
  | [] => []
  | d :: r => toPy d :: toPys r
end
/-! no thing of the store, no exception, texts of signs -/
mutual
def D.cl : D → Bool
  | .tup xs => cls xs
  | .lst xs => cls xs
  | .rol xs => cls xs
  | .str s => PyData.strOk s
  | .ref _ => false
  | .exc _ => false
  | .fn _ => false
  | _ => true
def cls : List D → Bool
  | [] => true
  | d :: r => d.cl && cls r
end
mutual
def D.dep : D → Nat
  | .tup xs => deps xs + 1
  | .lst xs => deps xs + 1
  | .rol xs => deps xs + 1
  | _ => 0
def deps : List D → Nat
  | [] => 0
  | d :: r => max d.dep (deps r)
end
mutual
theorem cl_lay : ∀ (d : D), d.cl = true → (toPy d).canLay0 = true
  | .non, _ => by simp [toPy, PyData.canLay0]
  | .bl _, _ => by simp [toPy, PyData.canLay0]
  | .int _, _ => by simp [toPy, PyData.canLay0]
  | .str _, h => by simpa [toPy, PyData.canLay0, D.cl] using h
  | .tup xs, h => by simpa [toPy, PyData.canLay0] using cls_lay xs h
  | .lst xs, h => by simpa [toPy, PyData.canLay0] using cls_lay xs h
  | .rol xs, h => by simpa [toPy, PyData.canLay0] using cls_lay xs h
  | .ref _, h => by cases h
  | .exc _, h => by cases h
  | .fn _, h => by cases h
theorem cls_lay : ∀ (ds : List D), cls ds = true → PyData.canLayAll0 (toPys ds) = true
  | [], _ => by simp [toPys, PyData.canLayAll0]
  | d :: r, h => by
    have h' : d.cl = true ∧ cls r = true := by simpa [cls] using h
    simp only [toPys, PyData.canLayAll0, cl_lay d h'.1, cls_lay r h'.2, Bool.and_self]
end
mutual
theorem dep_eq : ∀ (d : D), (toPy d).depth = d.dep
  | .non => by simp [toPy, PyData.depth, D.dep]
  | .bl _ => by simp [toPy, PyData.depth, D.dep]
  | .int _ => by simp [toPy, PyData.depth, D.dep]
  | .str _ => by simp [toPy, PyData.depth, D.dep]
  | .tup xs => by simp [toPy, PyData.depth, D.dep, deps_eq xs]
  | .lst xs => by simp [toPy, PyData.depth, D.dep, deps_eq xs]
  | .rol xs => by simp [toPy, PyData.depth, D.dep, deps_eq xs]
  | .ref _ => by simp [toPy, PyData.depth, D.dep]
  | .exc _ => by simp [toPy, PyData.depth, D.dep]
  | .fn _ => by simp [toPy, PyData.depth, D.dep]
theorem deps_eq : ∀ (ds : List D), PyData.depthAll (toPys ds) = deps ds
  | [] => by simp [toPys, PyData.depthAll, deps]
  | d :: r => by simp only [toPys, PyData.depthAll, deps, dep_eq d, deps_eq r]
end
def D.fine (n : Nat) (d : D) : Bool := d.cl && decide (d.dep ≤ n)
def fines (n : Nat) (ds : List D) : Bool := cls ds && decide (deps ds ≤ n)
theorem fine_shaped' {d : D} {n : Nat} (hn : n ≤ 64) (h : d.fine n = true) : SeqAt.shaped (toPy d) = true := by
  unfold D.fine at h
  rw [Bool.and_eq_true] at h
  unfold SeqAt.shaped
  rw [cl_lay d h.1, Bool.true_and]
  have h2 := of_decide_eq_true h.2
  exact decide_eq_true (by rw [dep_eq]; omega)
theorem fine_shaped {d : D} (h : d.fine 64 = true) : SeqAt.shaped (toPy d) = true := fine_shaped' (Nat.le_refl _) h
section
variable {K : PySem.W.Frag} {mg : Str → Option Value} {w : Wd} {H : Hp}
mutual
theorem rep_dp (hF : ∀ a o, w.F a = some o → H a = some o) : ∀ (d : D) (v : V), d.cl = true → Rep K mg w d v → Dp K H v (toPy d)
  | .non, _, _, h => by cases h; exact .non
  | .bl b, _, _, h => by cases h; exact .bl b
  | .int i, _, _, h => by cases h; exact .int i
  | .str s, _, _, h => by cases h; exact .str s
  | .tup xs, _, f, ⟨a, vs, e, q, r⟩ => by
    subst e
    exact .tup (SqT.of (hF _ _ q)) (reps_dp hF xs vs f r)
  | .lst xs, _, f, ⟨a, vs, e, q, r⟩ => by
    subst e
    exact .lst (SqL.of (hF _ _ q)) (reps_dp hF xs vs f r)
  | .rol xs, _, f, ⟨a, vs, e, q, r⟩ => by
    subst e
    exact .lst (sql_mono hF q) (reps_dp hF xs vs f r)
  | .ref _, _, f, _ => by cases f
  | .exc _, _, f, _ => by cases f
  | .fn _, _, f, _ => by cases f
theorem reps_dp (hF : ∀ a o, w.F a = some o → H a = some o) : ∀ (ds : List D) (vs : List V), cls ds = true → Reps K mg w ds vs → DpAll K H vs (toPys ds)
  | [], _, _, h => by cases h; exact .nil
  | d :: r, _, f, ⟨v, vr, e, h, t⟩ => by
    subst e
    have f' : d.cl = true ∧ cls r = true := by simpa [cls] using f
    exact .cons (rep_dp hF d v f'.1 h) (reps_dp hF r vr f'.2 t)
end
end
theorem cl_of {d : D} {n : Nat} (h : d.fine n = true) : d.cl = true := by
  unfold D.fine at h
  rw [Bool.and_eq_true] at h
  exact h.1
theorem cls_of {d : List D} {n : Nat} (h : fines n d = true) : cls d = true := by
  unfold fines at h
  rw [Bool.and_eq_true] at h
  exact h.1
/-- the list of the store as data -/
def seen (μ : Sto) : D → D
  | .ref n => match μ[n]? with
    | some (.lst xs) => .lst xs
    | _ => .ref n
  | d => d
theorem seen_dp {K : PySem.W.Frag} {mg : Str → Option Value} {w : Wd} {H : Hp} {μ : Sto} {d : D} {v : V} (M : Mt K mg w H μ) (r : Rep K mg w d v) (f : (seen μ d).cl = true) : Dp K H v (toPy (seen μ d)) := by
  cases d with
  | ref k =>
    obtain ⟨a, e, ha⟩ := r
    subst e
    unfold seen at f ⊢
    dsimp only at f ⊢
    cases q : μ[k]? with
    | none => rw [q] at f; cases f
    | some ob =>
      rw [q] at f
      cases ob with
      | dead => cases f
      | lst xs =>
        obtain ⟨vs, hH, _, rr⟩ := M.ob k a _ ha q
        exact .lst (SqL.of hH) (reps_dp M.fz xs vs f rr)
  | _ => exact rep_dp M.fz _ _ f r
/-- == of data -/
def eqD (x y : D) : Bool := PyData.eqv (toPy x) (toPy y)
/-- scalars that == tells apart as data does -/
def scalD : D → D → Bool
  | .str _, .str _ => true
  | .int _, .int _ => true
  | .bl _, .bl _ => true
  | .non, .non => true
  | .non, .str _ => true
  | .str _, .non => true
  | .non, .int _ => true
  | .int _, .non => true
  | _, _ => false
def eqB (x y : D) (μ : Sto) : Option Bool := if scalD x y = true then some (eqD x y) else if (seen μ x).fine 64 = true ∧ (seen μ y).fine 64 = true then some (eqD (seen μ x) (seen μ y)) else none
def cEq : F2 := fun x y μ => match eqB x y μ with
  | some b => .ok (.bl b) μ
  | none => .no
def cNe : F2 := fun x y μ => match eqB x y μ with
  | some b => .ok (.bl !b) μ
  | none => .no
section
variable {K : PySem.W.Frag} {mg : Str → Option Value}
theorem scal_ok {w : Wd} {x y : D} {u v : V} (h : scalD x y = true) (rx : Rep K mg w x u) (ry : Rep K mg w y v) : scal u v = true ∧ decide (u = v) = eqD x y := by
  unfold scalD at h
  split at h <;> first | (cases h; done) | (cases rx; cases ry; exact ⟨rfl, by first | (rw [dec_str]; simp [eqD, toPy, PyData.eqv]; done) | (rw [dec_int]; simp [eqD, toPy, PyData.eqv]; done) | (rw [dec_bl]; simp [eqD, toPy, PyData.eqv]; done) | simp [eqD, toPy, PyData.eqv]⟩)
theorem eqB_ok {w : Wd} {H : Hp} {μ : Sto} {x y : D} {vx vy : V} {b : Bool} (M : Mt K mg w H μ) (rx : Rep K mg w x vx) (ry : Rep K mg w y vy) (h : eqB x y μ = some b) :
    (scal vx vy = true ∧ decide (vx = vy) = b) ∨ (∃ d e, Dp K H vx d ∧ Dp K H vy e ∧ SeqAt.shaped d = true ∧ SeqAt.shaped e = true ∧ PyData.eqv d e = b) := by
  unfold eqB at h
  split at h
  · rename_i c
    obtain ⟨h1, h2⟩ := scal_ok c rx ry
    exact .inl ⟨h1, h2.trans (Option.some.inj h)⟩
  · split at h
    · rename_i c
      exact .inr ⟨_, _, seen_dp M rx (cl_of c.1), seen_dp M ry (cl_of c.2), fine_shaped c.1, fine_shaped c.2, Option.some.inj h⟩
    · cases h
abbrev rEqAll (K : PySem.W.Frag) : R2 := fun x y H Q => rEq x y H Q ∨ rEqD K x y H Q
abbrev rNeAll (K : PySem.W.Frag) : R2 := fun x y H Q => rNe x y H Q ∨ rNeD K x y H Q
theorem op_eqAll {X : Cx} (hu : X.A.units + 64 < cLine) : OpR X (compareOp .Eq) (rEqAll X.K) := OpR_or op_eq (op_eqD hu)
theorem op_neAll {X : Cx} (hu : X.A.units + 64 < cLine) : OpR X (compareOp .NotEq) (rNeAll X.K) := OpR_or op_ne (op_neD hu)
theorem om_eq : OpM K mg cEq (rEqAll K) := fun w H μ W σ x y vx vy Q M rx ry h => by
  unfold cEq at h
  split at h
  · rename_i b q
    have h := h.ok (b := V.bl b) M rfl
    rcases eqB_ok M rx ry q with ⟨s, e⟩ | ⟨d, d', h1, h2, h3, h4, e⟩
    · exact .inl ⟨s, by rw [e]; exact h⟩
    · exact .inr ⟨d, d', h1, h2, h3, h4, by rw [e]; exact h⟩
  · exact h.elim
theorem om_ne : OpM K mg cNe (rNeAll K) := fun w H μ W σ x y vx vy Q M rx ry h => by
  unfold cNe at h
  split at h
  · rename_i b q
    have h := h.ok (b := V.bl !b) M rfl
    rcases eqB_ok M rx ry q with ⟨s, e⟩ | ⟨d, d', h1, h2, h3, h4, e⟩
    · exact .inl ⟨s, by rw [e]; exact h⟩
    · exact .inr ⟨d, d', h1, h2, h3, h4, by rw [e]; exact h⟩
  · exact h.elim
end

/-! ### numbers, texts, lists: operators -/
def fAdd : F2 := fun x y μ => match x, y with
  | .int i, .int j => .ok (.int (i + j)) μ
  | .str s, .str t => if s.length + t.length ≤ cap then .ok (.str (s ++ t)) μ else .no
  | .lst xs, .lst ys => if xs.length + ys.length ≤ cap then .ok (.lst (xs ++ ys)) μ else .no
  | _, _ => .no
def fSub : F2 := fun x y μ => match x, y with
  | .int i, .int j => .ok (.int (i - j)) μ
  | _, _ => .no
instance (i j : Int) : Decidable (CMulW i j) := inferInstanceAs (Decidable (_ < _))
instance (i j : Int) : Decidable (CDivW i j) := inferInstanceAs (Decidable (_ ∧ _))
instance (i j : Int) : Decidable (CPow i j) := inferInstanceAs (Decidable (_ ∧ _ ∧ _))
def fMul : F2 := fun x y μ => match x, y with
  | .int i, .int j => if CMulW i j then .ok (.int (i * j)) μ else .no
  | _, _ => .no
def fDiv : F2 := fun x y μ => match x, y with
  | .int i, .int j => if CDivW i j then .ok (.int (i / j)) μ else .no
  | _, _ => .no
def fMod : F2 := fun x y μ => match x, y with
  | .int i, .int j => if 0 < j then .ok (.int (i % j)) μ else .no
  | _, _ => .no
def fPow : F2 := fun x y μ => match x, y with
  | .int i, .int j => if CPow i j then .ok (.int (i ^ j.toNat)) μ else .no
  | _, _ => .no
def fCmpI (p : Int → Int → Bool) : F2 := fun x y μ => match x, y with
  | .int i, .int j => .ok (.bl (p i j)) μ
  | _, _ => .no
abbrev cLt : F2 := fCmpI fun i j => decide (i < j)
abbrev cLe : F2 := fCmpI fun i j => decide (i ≤ j)
abbrev cGt : F2 := fCmpI fun i j => decide (j < i)
abbrev cGe : F2 := fCmpI fun i j => decide (j ≤ i)
/-- is None -/
def isN : D → Bool
  | .non => true
  | _ => false
def cIsN : F2 := fun x y μ => match y with
  | .non => .ok (.bl (isN x)) μ
  | _ => .no
def cNotN : F2 := fun x y μ => match y with
  | .non => .ok (.bl (!isN x)) μ
  | _ => .no
def orR (r r' : R2) : R2 := fun x y H Q => r x y H Q ∨ r' x y H Q
section
variable {K : PySem.W.Frag} {mg : Str → Option Value}
theorem om_ints {f : F2} {C : Int → Int → Prop} {g : Int → Int → V} {gd : Int → Int → D} (hg : ∀ w i j, Rep K mg w (gd i j) (g i j)) (hf : ∀ x y μ, (∃ i j, x = .int i ∧ y = .int j ∧ C i j ∧ f x y μ = .ok (gd i j) μ) ∨ f x y μ = .no) : OpM K mg f (rI C g) := fun w H μ W σ x y vx vy Q M rx ry h => by
  rcases hf x y μ with ⟨i, j, rfl, rfl, hc, e⟩ | e
  · rw [e] at h
    cases rx
    cases ry
    exact ⟨i, j, rfl, rfl, hc, h.ok M (hg w i j)⟩
  · rw [e] at h
    exact h.elim
theorem om_ints0 {f : F2} {g : Int → Int → V} {gd : Int → Int → D} (hg : ∀ w i j, Rep K mg w (gd i j) (g i j)) (hf : ∀ x y μ, (∃ i j, x = .int i ∧ y = .int j ∧ f x y μ = .ok (gd i j) μ) ∨ f x y μ = .no) : OpM K mg f (rI0 g) := fun w H μ W σ x y vx vy Q M rx ry h => by
  rcases hf x y μ with ⟨i, j, rfl, rfl, e⟩ | e
  · rw [e] at h
    cases rx
    cases ry
    exact ⟨i, j, rfl, rfl, h.ok M (hg w i j)⟩
  · rw [e] at h
    exact h.elim
theorem om_sub : OpM K mg fSub (rI0 fun i j => .int (i - j)) := om_ints0 (gd := fun i j => .int (i - j)) (fun _ _ _ => rfl) fun x y μ => by
  unfold fSub
  split
  · exact .inl ⟨_, _, rfl, rfl, rfl⟩
  · exact .inr rfl
theorem om_mul : OpM K mg fMul (rI CMulW fun i j => .int (i * j)) := om_ints (gd := fun i j => .int (i * j)) (fun _ _ _ => rfl) fun x y μ => by
  unfold fMul
  split
  · split
    · rename_i c
      exact .inl ⟨_, _, rfl, rfl, c, rfl⟩
    · exact .inr rfl
  · exact .inr rfl
theorem om_div : OpM K mg fDiv (rI CDivW fun i j => .int (i / j)) := om_ints (gd := fun i j => .int (i / j)) (fun _ _ _ => rfl) fun x y μ => by
  unfold fDiv
  split
  · split
    · rename_i c
      exact .inl ⟨_, _, rfl, rfl, c, rfl⟩
    · exact .inr rfl
  · exact .inr rfl
theorem om_mod : OpM K mg fMod (rI (fun _ j => 0 < j) fun i j => .int (i % j)) := om_ints (gd := fun i j => .int (i % j)) (fun _ _ _ => rfl) fun x y μ => by
  unfold fMod
  split
  · split
    · rename_i c
      exact .inl ⟨_, _, rfl, rfl, c, rfl⟩
    · exact .inr rfl
  · exact .inr rfl
theorem om_pow : OpM K mg fPow (rI CPow fun i j => .int (i ^ j.toNat)) := om_ints (gd := fun i j => .int (i ^ j.toNat)) (fun _ _ _ => rfl) fun x y μ => by
  unfold fPow
  split
  · split
    · rename_i c
      exact .inl ⟨_, _, rfl, rfl, c, rfl⟩
    · exact .inr rfl
  · exact .inr rfl
theorem om_cmp {p : Int → Int → Bool} : OpM K mg (fCmpI p) (rI0 fun i j => .bl (p i j)) := om_ints0 (gd := fun i j => .bl (p i j)) (fun _ _ _ => rfl) fun x y μ => by
  unfold fCmpI
  split
  · exact .inl ⟨_, _, rfl, rfl, rfl⟩
  · exact .inr rfl
theorem isN_ok {w : Wd} {x : D} {v : V} (r : Rep K mg w x v) : decide (v = .non) = isN x := by
  cases x with
  | non => cases r; rfl
  | bl b => cases r; rfl
  | int i => cases r; rfl
  | str s => cases r; rfl
  | tup xs => obtain ⟨a, vs, e, _⟩ := r; subst e; rfl
  | lst xs => obtain ⟨a, vs, e, _⟩ := r; subst e; rfl
  | rol xs => obtain ⟨a, vs, e, _⟩ := r; subst e; rfl
  | ref n => obtain ⟨a, e, _⟩ := r; subst e; rfl
  | exc c => obtain ⟨a, C, e, _⟩ := r; subst e; rfl
  | fn c => obtain ⟨a, e, _⟩ := r; subst e; rfl
theorem om_isN : OpM K mg cIsN (fun x y H Q => y = .non ∧ Q (.bl (decide (x = .non))) H) := fun w H μ W σ x y vx vy Q M rx ry h => by
  unfold cIsN at h
  split at h
  · cases ry
    refine ⟨rfl, ?_⟩
    rw [isN_ok rx]
    exact h.ok M rfl
  · exact h.elim
theorem om_notN : OpM K mg cNotN (fun x y H Q => y = .non ∧ Q (.bl (!decide (x = .non))) H) := fun w H μ W σ x y vx vy Q M rx ry h => by
  unfold cNotN at h
  split at h
  · cases ry
    refine ⟨rfl, ?_⟩
    rw [isN_ok rx]
    exact h.ok M rfl
  · exact h.elim
abbrev rAddAll : R2 := fun x y H Q => (rI0 (fun i j => .int (i + j)) x y H Q) ∨ ((fun x y H Q => ∃ i j, x = .str i ∧ y = .str j ∧ i.length + j.length ≤ sizeLine ∧ Q (.str (i ++ j)) H : R2) x y H Q) ∨ rCat x y H Q
theorem op_addAll {X : Cx} : OpR X (binaryOp .Add) rAddAll := OpR_or op_add (OpR_or op_add_str op_cat)
theorem om_add : OpM K mg fAdd rAddAll := fun w H μ W σ x y vx vy Q M rx ry h => by
  unfold fAdd at h
  split at h
  · cases rx
    cases ry
    exact .inl ⟨_, _, rfl, rfl, h.ok M rfl⟩
  · split at h
    · rename_i c
      cases rx
      cases ry
      exact .inr (.inl ⟨_, _, rfl, rfl, Nat.le_trans c cap_size, h.ok M rfl⟩)
    · exact h.elim
  · split at h
    · rename_i c
      obtain ⟨a, vs, e, f, r⟩ := rx
      obtain ⟨b, us, e', f', r'⟩ := ry
      subst e e'
      refine .inr (.inr ⟨a, b, vs, us, rfl, rfl, M.fz _ _ f, M.fz _ _ f', by rw [← r.length, ← r'.length]; exact Nat.le_trans c cap_size, fun p hp => ?_⟩)
      obtain ⟨M2, l2⟩ := M.newF (o := .lst (vs ++ us)) hp
      exact h _ _ _ l2 M2 ⟨p, _, rfl, upd_same, (r.append r').mono l2⟩
    · exact h.elim
  · exact h.elim
end

/-! ### in -/
def flatD : D → Bool
  | .non => true
  | .bl _ => true
  | .int _ => true
  | .str _ => true
  | _ => false
def isIn (x : D) (xs : List D) : Bool := xs.any fun z => eqD z x
def inB (x y : D) (μ : Sto) : Option Bool := match y with
  | .str s => match x with
    | .str t => match t.cps.toList with
      | [c] => some (decide (c ∈ s.cps.toList))
      | _ => none
    | _ => none
  | .tup ys => if flatD x = true ∧ ys.all flatD = true then some (isIn x ys) else none
  | y => match lstV μ y with
    | some ys => if flatD x = true ∧ ys.all flatD = true then some (isIn x ys) else if x.fine 60 = true ∧ fines 60 ys = true then some (isIn x ys) else none
    | none => none
def cIn : F2 := fun x y μ => match inB x y μ with
  | some b => .ok (.bl b) μ
  | none => .no
def cNotIn : F2 := fun x y μ => match inB x y μ with
  | some b => .ok (.bl !b) μ
  | none => .no
section
variable {K : PySem.W.Frag} {mg : Str → Option Value}
theorem flat_v {w : Wd} {x : D} {v : V} (f : flatD x = true) (r : Rep K mg w x v) : flatV v = true := by
  cases x <;> first | (cases r; rfl) | cases f
theorem flats_v {w : Wd} : ∀ {xs : List D} {vs : List V}, xs.all flatD = true → Reps K mg w xs vs → vs.all flatV = true
  | [], _, _, h => by cases h; rfl
  | x :: xs, _, f, ⟨v, r, e, h, t⟩ => by
    subst e
    rw [List.all_cons, Bool.and_eq_true] at f
    rw [List.all_cons, flat_v f.1 h, flats_v f.2 t, Bool.and_self]
theorem eqV_flat {w : Wd} {x y : D} {u v : V} (fx : flatD x = true) (fy : flatD y = true) (rx : Rep K mg w x u) (ry : Rep K mg w y v) : eqV u v = eqD x y := by
  cases x <;> first | (cases fx; done) | (cases y <;> first | (cases fy; done) | (cases rx; cases ry; simp [eqV, eqD, toPy, PyData.eqv]))
theorem inV_flat {w : Wd} {x : D} {u : V} (fx : flatD x = true) (rx : Rep K mg w x u) : ∀ {xs : List D} {vs : List V}, xs.all flatD = true → Reps K mg w xs vs → inV u vs = isIn x xs
  | [], _, _, h => by cases h; rfl
  | y :: ys, _, f, ⟨v, r, e, h, t⟩ => by
    subst e
    rw [List.all_cons, Bool.and_eq_true] at f
    have ih := inV_flat fx rx f.2 t
    unfold inV isIn at ih ⊢
    rw [List.any_cons, List.any_cons, ih, eqV_flat f.1 fx h rx]
theorem any_toPys (x : D) : ∀ ys : List D, ((toPys ys).any fun z => PyData.eqv z (toPy x)) = isIn x ys
  | [] => rfl
  | y :: ys => by
    have ih := any_toPys x ys
    unfold isIn at ih ⊢
    rw [toPys, List.any_cons, List.any_cons, ih]
    rfl
abbrev rInAll (K : PySem.W.Frag) : R2 := fun x y H Q => ((fun x y H Q => ∃ (c : Nat) (z : Str), x = .str ⟨#[c]⟩ ∧ y = .str z ∧ Q (.bl (decide (c ∈ z.cps.toList))) H : R2) x y H Q) ∨ rIn K false x y H Q ∨ rInD K x y H Q
abbrev rNotInAll (K : PySem.W.Frag) : R2 := fun x y H Q => ((fun x y H Q => ∃ (c : Nat) (z : Str), x = .str ⟨#[c]⟩ ∧ y = .str z ∧ Q (.bl (!decide (c ∈ z.cps.toList))) H : R2) x y H Q) ∨ rIn K true x y H Q ∨ rNotInD K x y H Q
theorem op_inAll {X : Cx} (hu : X.A.units + 65 < cLine) : OpR X (compareOp .In) (rInAll X.K) := OpR_or op_in_sign (OpR_or op_in_seq (op_inD hu))
theorem op_notInAll {X : Cx} (hu : X.A.units + 65 < cLine) : OpR X (compareOp .NotIn) (rNotInAll X.K) := OpR_or op_notIn_sign (OpR_or op_notIn_seq (op_notInD hu))
theorem inB_ok {w : Wd} {H : Hp} {μ : Sto} {x y : D} {vx vy : V} {b : Bool} (M : Mt K mg w H μ) (rx : Rep K mg w x vx) (ry : Rep K mg w y vy) (h : inB x y μ = some b) :
    (∃ (c : Nat) (z : Str), vx = .str ⟨#[c]⟩ ∧ vy = .str z ∧ decide (c ∈ z.cps.toList) = b) ∨ (∃ p xs, vy = .ref p ∧ (SqL K H p xs ∨ SqT K H p xs) ∧ flatV vx = true ∧ xs.all flatV = true ∧ inV vx xs = b) ∨
      (∃ d ds, Dp K H vx d ∧ Dp K H vy (.list ds) ∧ SeqAt.shaped d = true ∧ SeqAt.shaped (.list ds) = true ∧ (ds.any fun z => PyData.eqv z d) = b) := by
  have lists : ∀ ys, lstV μ y = some ys → (if flatD x = true ∧ ys.all flatD = true then some (isIn x ys) else if x.fine 60 = true ∧ fines 60 ys = true then some (isIn x ys) else none) = some b →
      (∃ p xs, vy = .ref p ∧ (SqL K H p xs ∨ SqT K H p xs) ∧ flatV vx = true ∧ xs.all flatV = true ∧ inV vx xs = b) ∨ (∃ d ds, Dp K H vx d ∧ Dp K H vy (.list ds) ∧ SeqAt.shaped d = true ∧ SeqAt.shaped (.list ds) = true ∧ (ds.any fun z => PyData.eqv z d) = b) := by
    intro ys hy h
    obtain ⟨a, vs, e, f, r⟩ := lstV_ok M ry hy
    subst e
    split at h
    · rename_i c
      exact .inl ⟨a, vs, rfl, .inl f, flat_v c.1 rx, flats_v c.2 r, (inV_flat c.1 rx c.2 r).trans (Option.some.inj h)⟩
    · split at h
      · rename_i c
        cases h
        refine .inr ⟨toPy x, toPys ys, rep_dp M.fz _ _ (cl_of c.1) rx, .lst f (reps_dp M.fz _ _ (cls_of c.2) r), fine_shaped' (by decide) c.1, ?_, any_toPys x ys⟩
        have q : (D.lst ys).fine 61 = true := by
          have c2 := c.2
          unfold fines at c2
          rw [Bool.and_eq_true] at c2
          unfold D.fine
          rw [Bool.and_eq_true]
          have h2 := of_decide_eq_true c2.2
          exact ⟨c2.1, decide_eq_true (by show deps ys + 1 ≤ 61; omega)⟩
        exact fine_shaped' (n := 61) (by decide) q
      · cases h
  cases y with
  | str s =>
    unfold inB at h
    dsimp only at h
    split at h
    · rename_i t
      split at h
      · rename_i c e
        cases rx
        cases ry
        have et : t = ⟨#[c]⟩ := by
          obtain ⟨⟨l⟩⟩ := t
          have e : l = [c] := e
          rw [e]
        subst et
        exact .inl ⟨c, s, rfl, rfl, Option.some.inj h⟩
      · cases h
    · cases h
  | tup ys =>
    unfold inB at h
    dsimp only at h
    split at h
    · rename_i c
      obtain ⟨a, vs, e, f, r⟩ := ry
      subst e
      refine .inr (.inl ⟨a, vs, rfl, .inr (SqT.of (M.fz _ _ f)), flat_v c.1 rx, flats_v c.2 r, ?_⟩)
      rw [inV_flat c.1 rx c.2 r]
      exact Option.some.inj h
    · cases h
  | lst ys => exact .inr (lists ys rfl h)
  | rol ys => exact .inr (lists ys rfl h)
  | ref n =>
    unfold inB at h
    dsimp only at h
    split at h
    · rename_i ys q
      exact .inr (lists ys q h)
    · cases h
  | non => cases h
  | bl _ => cases h
  | int _ => cases h
  | exc _ => cases h
  | fn _ => cases h
theorem om_in : OpM K mg cIn (rInAll K) := fun w H μ W σ x y vx vy Q M rx ry h => by
  unfold cIn at h
  split at h
  · rename_i b q
    have h := h.ok (b := V.bl b) M rfl
    rcases inB_ok M rx ry q with ⟨c, z, e1, e2, e⟩ | ⟨p, xs, e1, s, f1, f2, e⟩ | ⟨d, ds, d1, d2, s1, s2, e⟩
    · exact .inl ⟨c, z, e1, e2, by rw [e]; exact h⟩
    · refine .inr (.inl ⟨p, xs, e1, s, f1, f2, ?_⟩)
      rw [if_neg Bool.false_ne_true, e]
      exact h
    · exact .inr (.inr ⟨d, ds, d1, d2, s1, s2, by rw [e]; exact h⟩)
  · exact h.elim
theorem om_notIn : OpM K mg cNotIn (rNotInAll K) := fun w H μ W σ x y vx vy Q M rx ry h => by
  unfold cNotIn at h
  split at h
  · rename_i b q
    have h := h.ok (b := V.bl !b) M rfl
    rcases inB_ok M rx ry q with ⟨c, z, e1, e2, e⟩ | ⟨p, xs, e1, s, f1, f2, e⟩ | ⟨d, ds, d1, d2, s1, s2, e⟩
    · exact .inl ⟨c, z, e1, e2, by rw [e]; exact h⟩
    · refine .inr (.inl ⟨p, xs, e1, s, f1, f2, ?_⟩)
      rw [if_pos rfl, e]
      exact h
    · exact .inr (.inr ⟨d, ds, d1, d2, s1, s2, by rw [e]; exact h⟩)
  · exact h.elim
end
end Mp

namespace Mp
open PySem PySem.Spec PyProof.Rows L2

/-! ### subscripts -/
def orNo {α : Type} (f : α → D) (μ : Sto) : Option α → R D
  | some a => .ok (f a) μ
  | none => .no
def fIx : F2 := fun x y μ => match y with
  | .int i => match x with
    | .str s => if s.length ≤ cap then orNo (fun c => .str ⟨#[c]⟩) μ (atI s.cps.toList i) else .no
    | .tup xs => orNo id μ (atI xs i)
    | x => match lstV μ x with
      | some xs => orNo id μ (atI xs i)
      | none => .no
  | _ => .no
theorem Reps.atI {K : PySem.W.Frag} {mg : Str → Option Value} {w : Wd} {ds : List D} {vs : List V} {i : Int} {d : D} (r : Reps K mg w ds vs) (h : L2.atI ds i = some d) : ∃ v, L2.atI vs i = some v ∧ Rep K mg w d v := by
  unfold L2.atI at h ⊢
  rw [r.length] at h
  obtain ⟨j, hj, hd⟩ := Option.bind_eq_some_iff.mp h
  obtain ⟨v, hv, rv⟩ := r.get hd
  exact ⟨v, by rw [hj]; exact hv, rv⟩
section
variable {K : PySem.W.Frag} {mg : Str → Option Value}
theorem om_ix : OpM K mg fIx (rIx K) := fun w H μ W σ x y vx vy Q M rx ry h => by
  unfold fIx at h
  split at h
  · rename_i i
    cases ry
    have lists : ∀ xs, lstV μ x = some xs → Post K mg (Rep K mg) w W σ Q (orNo id μ (L2.atI xs i)) → rIx K vx (.int i) H Q := by
      intro xs hx h
      obtain ⟨a, vs, e, f, r⟩ := lstV_ok M rx hx
      subst e
      cases q : L2.atI xs i with
      | none => rw [q] at h; exact h.elim
      | some d =>
        rw [q] at h
        obtain ⟨v, hv, rv⟩ := r.atI q
        exact .inl ⟨a, vs, i, v, rfl, rfl, f, hv, h.ok M rv⟩
    split at h
    · rename_i s
      cases rx
      split at h
      · rename_i c
        cases q : L2.atI s.cps.toList i with
        | none => rw [q] at h; exact h.elim
        | some d =>
          rw [q] at h
          exact .inr (.inr ⟨s, i, d, rfl, rfl, Nat.le_trans c cap_size, q, h.ok M rfl⟩)
      · exact h.elim
    · rename_i xs
      obtain ⟨a, vs, e, f, r⟩ := rx
      subst e
      cases q : L2.atI xs i with
      | none => rw [q] at h; exact h.elim
      | some d =>
        rw [q] at h
        obtain ⟨v, hv, rv⟩ := r.atI q
        exact .inr (.inl ⟨a, vs, i, v, rfl, rfl, SqT.of (M.fz _ _ f), hv, h.ok M rv⟩)
    · split at h
      · rename_i xs q
        exact lists xs q h
      · exact h.elim
  · exact h.elim
end

/-! ### slices -/
abbrev OM := Fr → Sto → R (Option Int)
def oNone : OM := fun _ μ => .ok none μ
def oSome (m : EM) : OM := fun φ μ => (m φ μ).bind fun x μ1 => match x with
  | .int i => .ok (some i) μ1
  | _ => .no
abbrev rO : Wd → Option Int → Option Int → Prop := fun _ a b => a = b
structure POm (X : Cx) (W : WX) (e : Option Expr) (m : OM) : Prop where
  po : PO X e (tG X.K X.mg rO W m)
theorem PO_imp {X : Cx} {e : Option Expr} {t t' : TO} (h : PO X e t) (hi : ∀ σ H Q, t' σ H Q → t σ H Q) : PO X e t' := ⟨fun pins s σ H Q I q => h.run pins s σ H Q I (hi _ _ _ q)⟩
def cutD (xs : List D) (lo hi : Option Int) : List D := (xs.drop (HT.sIx xs.length 0 lo)).take (HT.sIx xs.length xs.length hi - HT.sIx xs.length 0 lo)
def fSl : D → Option Int → Option Int → Sto → R D := fun x lo hi μ => match x with
  | .str z => if z.length ≤ cap then .ok (.str (cutS z lo hi)) μ else .no
  | .tup xs => if HT.sIx xs.length 0 lo = 0 ∧ HT.sIx xs.length xs.length hi = xs.length then .no else .ok (.tup (cutD xs lo hi)) μ
  | x => match lstV μ x with
    | some xs => .ok (.lst (cutD xs lo hi)) μ
    | none => .no
def eSl (a : EM) (lo hi : OM) : EM := fun φ μ => (a φ μ).bind fun x μ1 => (lo φ μ1).bind fun l μ2 => (hi φ μ2).bind fun u μ3 => fSl x l u μ3
section
variable {X : Cx} {W : WX} {e : Expr} {lo hi : Option Expr} {m : EM} {ml mh : OM} {pos p2 : Pos}
theorem om_none : POm X W none oNone := ⟨PO_imp po_none fun σ H Q ⟨w, μ, φ, M, F, h⟩ => Post.ok (b := none) h M rfl⟩
theorem om_some (h : PEm X W e m) : POm X W (some e) (oSome m) := ⟨PO_imp (po_some h) fun σ H Q ⟨w, μ, φ, M, F, h⟩ => tG_seq M F h fun w1 μ1 x vx H1 l1 M1 F1 r1 h1 => by
  cases x with
  | int i =>
    cases r1
    exact ⟨i, rfl, Post.ok (b := some i) h1 M1 rfl⟩
  | _ => exact h1.elim⟩
theorem em_slice (he : PEm X W e m) (hl : POm X W lo ml) (hh : POm X W hi mh) : PEm X W (.Subscript e (.Slice lo hi none p2) pos) (eSl m ml mh) :=
  PE_imp (pe_slice (SlR.or sl_list (SlR.or sl_tup sl_str)) he hl.po hh.po) fun σ H Q ⟨w, μ, φ, M, F, h⟩ =>
    tG_seq M F h fun w1 μ1 x vx H1 l1 M1 F1 r1 h1 => tG_seq M1 F1 h1 fun w2 μ2 l l' H2 l2 M2 F2 e2 h2 => tG_seq M2 F2 h2 fun w3 μ3 u u' H3 l3 M3 F3 e3 h3 => by
      cases e2
      cases e3
      have r1 := r1.mono (l2.trans l3)
      have lists : ∀ xs, lstV μ3 x = some xs → Post X.K X.mg (Rep X.K X.mg) w3 W σ Q (.ok (.lst (cutD xs l u)) μ3) → rSlL X.K vx l u H3 Q := by
        intro xs hx h
        obtain ⟨a, vs, e, f, r⟩ := lstV_ok M3 r1 hx
        subst e
        refine ⟨a, vs, rfl, f, fun p hp => ?_⟩
        obtain ⟨M4, l4⟩ := M3.newF (o := .lst (cutV vs l u)) hp
        refine h _ _ _ l4 M4 ⟨p, _, rfl, upd_same, ?_⟩
        unfold cutD cutV
        rw [r.length]
        exact ((r.drop _).take _).mono l4
      unfold fSl at h3
      split at h3
      · rename_i z
        cases r1
        split at h3
        · rename_i c
          exact .inr (.inr ⟨_, rfl, Nat.le_trans c cap_size, h3.ok M3 rfl⟩)
        · exact h3.elim
      · rename_i xs
        obtain ⟨a, vs, e, f, r⟩ := r1
        subst e
        split at h3
        · exact h3.elim
        · rename_i c
          refine .inr (.inl ⟨a, vs, rfl, SqT.of (M3.fz _ _ f), by rw [← r.length]; exact c, fun p hp => ?_⟩)
          obtain ⟨M4, l4⟩ := M3.newF (o := .tup (cutV vs l u)) hp
          refine h3 _ _ _ l4 M4 ⟨p, _, rfl, upd_same, ?_⟩
          unfold cutD cutV
          rw [r.length]
          exact ((r.drop _).take _).mono l4
      · split at h3
        · rename_i xs q
          exact .inl (lists xs q h3)
        · exact h3.elim
end

/-! ### built-in functions -/
abbrev FA := List D → Sto → R D
def CaM (K : PySem.W.Frag) (mg : Str → Option Value) (f : FA) (r : List V → Hp → VK → Prop) : Prop :=
  ∀ (w : Wd) (H : Hp) (μ : Sto) (W : WX) (σ : L2.St) (xs : List D) (vs : List V) (Q : VK), Mt K mg w H μ → Reps K mg w xs vs → Post K mg (Rep K mg) w W σ Q (f xs μ) → r vs H Q
section
variable {X : Cx} {W : WX} {e : Expr} {es : List Expr} {am : AM} {x : Str} {f : FA} {r : List V → Hp → VK → Prop} {pos p : Pos} {id T : String}
theorem em_fnB (hc : CallR X (.builtin id) r) (hr : CaM X.K X.mg f r) (hm : X.mg x = none) (hv : bootBuiltins x = some (.builtin id)) (ha : PAm X W (e :: es) am) (hg : Gl X x := by rfl) (hn : x ≠ "__name__" := by decide) (hdb : (x == ("__debug__" : Str)) = false := by decide)
    (he : starEach (e :: es) X.env = (false, eval e X.env) :: starEach es X.env := by rfl) (hpl : (backTo pos (starEach es X.env)).any (·.1) = false := by rfl) : PEm X W (.Call (.Name x p) (e :: es) [] pos) (eFn f am) :=
  PE_imp (pe_callB hc hg hm hv ha.pa hn hdb he hpl) fun σ H Q ⟨w, μ, φ, M, F, h⟩ => tG_seq M F h fun w1 μ1 xs vs H1 l1 M1 F1 r1 h1 => hr w1 H1 μ1 W σ xs vs Q M1 r1 h1
theorem em_fnT (hc : CallR X (.type T) r) (hr : CaM X.K X.mg f r) (hm : X.mg x = none) (hv : bootBuiltins x = some (.type T)) (ha : PAm X W (e :: es) am) (hg : Gl X x := by rfl) (hn : x ≠ "__name__" := by decide) (hdb : (x == ("__debug__" : Str)) = false := by decide)
    (he : starEach (e :: es) X.env = (false, eval e X.env) :: starEach es X.env := by rfl) (hpl : (backTo pos (starEach es X.env)).any (·.1) = false := by rfl) : PEm X W (.Call (.Name x p) (e :: es) [] pos) (eFn f am) :=
  PE_imp (pe_callTy hc hg hm hv ha.pa hn hdb he hpl) fun σ H Q ⟨w, μ, φ, M, F, h⟩ => tG_seq M F h fun w1 μ1 xs vs H1 l1 M1 F1 r1 h1 => hr w1 H1 μ1 W σ xs vs Q M1 r1 h1
end
def fLen : FA := fun xs μ => match xs with
  | [.str s] => if s.length ≤ cap then .ok (.int s.length) μ else .no
  | [.tup ys] => .ok (.int ys.length) μ
  | [x] => match lstV μ x with
    | some ys => .ok (.int ys.length) μ
    | none => .no
  | _ => .no
def fList : FA := fun xs μ => match xs with
  | [.tup ys] => .ok (.lst ys) μ
  | [x] => match lstV μ x with
    | some ys => .ok (.lst ys) μ
    | none => .no
  | _ => .no
def fTuple : FA := fun xs μ => match xs with
  | [.tup ys] => .ok (.tup ys) μ
  | [x] => match lstV μ x with
    | some ys => .ok (.tup ys) μ
    | none => .no
  | _ => .no
def fStr : FA := fun xs μ => match xs with
  | [.int i] => if i.natAbs.log2 < 1920 then .ok (.str (Str.ofString (toString i))) μ else .no
  | _ => .no
def fInt : FA := fun xs μ => match xs with
  | [.str s] => if s.length ≤ 640 then orNo .int μ (PySem.intText? s) else .no
  | [.int i] => .ok (.int i) μ
  | [.bl b] => .ok (.int (b2i b)) μ
  | _ => .no
def blsOf : List D → Option (List Bool)
  | [] => some []
  | .bl b :: r => (blsOf r).map fun bs => b :: bs
  | _ => none
theorem blsOf_eq : ∀ {xs : List D} {bs : List Bool}, blsOf xs = some bs → xs = bs.map D.bl
  | [], _, h => by cases h; rfl
  | d :: r, _, h => by
    cases d with
    | bl b =>
      obtain ⟨cs, h1, h2⟩ := Option.map_eq_some_iff.mp (show (blsOf r).map (fun bs => b :: bs) = some _ from h)
      subst h2
      rw [blsOf_eq h1]
      rfl
    | _ => cases h
@[simp] theorem blsOf_map : ∀ bs : List Bool, blsOf (bs.map D.bl) = some bs
  | [] => rfl
  | b :: bs => by show (blsOf (bs.map D.bl)).map _ = _; rw [blsOf_map bs]; rfl
def fAll : FA := fun xs μ => match xs with
  | [x] => match (lstV μ x).bind blsOf with
    | some bs => .ok (.bl (bs.all id)) μ
    | none => .no
  | _ => .no
def fAny : FA := fun xs μ => match xs with
  | [x] => match (lstV μ x).bind blsOf with
    | some bs => .ok (.bl (bs.any id)) μ
    | none => .no
  | _ => .no
section
variable {K : PySem.W.Frag} {mg : Str → Option Value}
theorem Reps.one {w : Wd} {x : D} {vs : List V} (r : Reps K mg w [x] vs) : ∃ v, vs = [v] ∧ Rep K mg w x v := by
  obtain ⟨v, r', e, h, t⟩ := r
  cases t
  exact ⟨v, e, h⟩
theorem Reps.two {w : Wd} {x y : D} {vs : List V} (r : Reps K mg w [x, y] vs) : ∃ v u, vs = [v, u] ∧ Rep K mg w x v ∧ Rep K mg w y u := by
  obtain ⟨v, r', e, h, t⟩ := r
  obtain ⟨u, e', q⟩ := t.one
  subst e'
  exact ⟨v, u, e, h, q⟩
abbrev rLenAll (K : PySem.W.Frag) : List V → Hp → VK → Prop := fun xs H Q => (∃ p ys, xs = [.ref p] ∧ (SqL K H p ys ∨ SqT K H p ys) ∧ Q (.int ys.length) H) ∨ (∃ z, xs = [.str z] ∧ z.length ≤ sizeLine ∧ Q (.int z.length) H)
theorem cr_lenAll {X : Cx} : CallR X (.builtin "len") (rLenAll X.K) := CallR.or call_len_seq call_len_str
theorem ca_len : CaM K mg fLen (rLenAll K) := fun w H μ W σ xs vs Q M r h => by
  unfold fLen at h
  split at h
  · obtain ⟨v, e, rv⟩ := r.one
    subst e
    cases rv
    split at h
    · rename_i c
      exact .inr ⟨_, rfl, Nat.le_trans c cap_size, h.ok M rfl⟩
    · exact h.elim
  · obtain ⟨v, e, a, us, e2, f, rr⟩ := r.one
    subst e e2
    exact .inl ⟨a, us, rfl, .inr (SqT.of (M.fz _ _ f)), by rw [← rr.length]; exact h.ok M rfl⟩
  · obtain ⟨v, e, rv⟩ := r.one
    subst e
    split at h
    · rename_i ys q
      obtain ⟨a, us, e2, f, rr⟩ := lstV_ok M rv q
      subst e2
      exact .inl ⟨a, us, rfl, .inl f, by rw [← rr.length]; exact h.ok M rfl⟩
    · exact h.elim
  · exact h.elim
theorem ca_list : CaM K mg fList (fun xs H Q => ∃ p ys, xs = [.ref p] ∧ (SqL K H p ys ∨ SqT K H p ys) ∧ ∀ l, H l = none → Q (.ref l) (upd H l (.lst ys))) := fun w H μ W σ xs vs Q M r h => by
  unfold fList at h
  split at h
  · obtain ⟨v, e, a, us, e2, f, rr⟩ := r.one
    subst e e2
    refine ⟨a, us, rfl, .inr (SqT.of (M.fz _ _ f)), fun p hp => ?_⟩
    obtain ⟨M2, l2⟩ := M.newF (o := .lst us) hp
    exact h _ _ _ l2 M2 ⟨p, us, rfl, upd_same, rr.mono l2⟩
  · obtain ⟨v, e, rv⟩ := r.one
    subst e
    split at h
    · rename_i ys q
      obtain ⟨a, us, e2, f, rr⟩ := lstV_ok M rv q
      subst e2
      refine ⟨a, us, rfl, .inl f, fun p hp => ?_⟩
      obtain ⟨M2, l2⟩ := M.newF (o := .lst us) hp
      exact h _ _ _ l2 M2 ⟨p, us, rfl, upd_same, rr.mono l2⟩
    · exact h.elim
  · exact h.elim
theorem ca_tuple : CaM K mg fTuple (fun xs H Q => ∃ p ys, xs = [.ref p] ∧ ((SqL K H p ys ∧ ∀ l, H l = none → Q (.ref l) (upd H l (.tup ys))) ∨ (SqT K H p ys ∧ Q (.ref p) H))) := fun w H μ W σ xs vs Q M r h => by
  unfold fTuple at h
  split at h
  · obtain ⟨v, e, rv⟩ := r.one
    obtain ⟨a, us, e2, f, rr⟩ := _root_.id rv
    subst e e2
    exact ⟨a, us, rfl, .inr ⟨SqT.of (M.fz _ _ f), h.ok M rv⟩⟩
  · obtain ⟨v, e, rv⟩ := r.one
    subst e
    split at h
    · rename_i ys q
      obtain ⟨a, us, e2, f, rr⟩ := lstV_ok M rv q
      subst e2
      refine ⟨a, us, rfl, .inl ⟨f, fun p hp => ?_⟩⟩
      obtain ⟨M2, l2⟩ := M.newF (o := .tup us) hp
      exact h _ _ _ l2 M2 ⟨p, us, rfl, upd_same, rr.mono l2⟩
    · exact h.elim
  · exact h.elim
theorem ca_str : CaM K mg fStr (fun xs H Q => ∃ i : Int, xs = [.int i] ∧ i.natAbs.log2 < 1920 ∧ Q (.str (toString i)) H) := fun w H μ W σ xs vs Q M r h => by
  unfold fStr at h
  split at h
  · obtain ⟨v, e, rv⟩ := r.one
    subst e
    cases rv
    split at h
    · rename_i c
      exact ⟨_, rfl, c, h.ok M rfl⟩
    · exact h.elim
  · exact h.elim
theorem ca_all : CaM K mg fAll (rAll K) := fun w H μ W σ xs vs Q M r h => by
  unfold fAll at h
  split at h
  · obtain ⟨v, e, rv⟩ := r.one
    subst e
    split at h
    · rename_i bs q
      obtain ⟨ys, q1, q2⟩ := Option.bind_eq_some_iff.mp q
      obtain ⟨a, us, e2, f, rr⟩ := lstV_ok M rv q1
      subst e2
      rw [blsOf_eq q2] at rr
      rw [rr.bls_eq] at f
      exact ⟨a, bs, rfl, f, h.ok M rfl⟩
    · exact h.elim
  · exact h.elim
theorem ca_any : CaM K mg fAny (rAny K) := fun w H μ W σ xs vs Q M r h => by
  unfold fAny at h
  split at h
  · obtain ⟨v, e, rv⟩ := r.one
    subst e
    split at h
    · rename_i bs q
      obtain ⟨ys, q1, q2⟩ := Option.bind_eq_some_iff.mp q
      obtain ⟨a, us, e2, f, rr⟩ := lstV_ok M rv q1
      subst e2
      rw [blsOf_eq q2] at rr
      rw [rr.bls_eq] at f
      exact ⟨a, bs, rfl, f, h.ok M rfl⟩
    · exact h.elim
  · exact h.elim
abbrev rIntAll : List V → Hp → VK → Prop := fun xs H Q => (∃ a n, xs = [.str a] ∧ PySem.intText? a = some n ∧ a.length ≤ 640 ∧ Q (.int n) H)
theorem ca_intS : CaM K mg (fun xs μ => match xs with | [.str s] => if s.length ≤ 640 then orNo .int μ (PySem.intText? s) else .no | _ => .no) rIntAll := fun w H μ W σ xs vs Q M r h => by
  dsimp only at h
  split at h
  · obtain ⟨v, e, rv⟩ := r.one
    subst e
    cases rv
    split at h
    · rename_i c
      cases q : PySem.intText? _ with
      | none => rw [q] at h; exact h.elim
      | some n => rw [q] at h; exact ⟨_, n, rfl, q, c, h.ok M rfl⟩
    · exact h.elim
  · exact h.elim
end

/-! ### methods -/
/-- o.m(e, ..): the receiver of a built-in type -/
def tyD (T : String) (x : D) (μ : Sto) : Bool := match x with
  | .str _ => T == "str"
  | .int _ => T == "int"
  | x => (lstV μ x).isSome && T == "list"
def eMeth (T : String) (f : D → List D → Sto → R D) (a : EM) (as : AM) : EM := fun φ μ => (a φ μ).bind fun x μ1 => if tyD T x μ1 = true then (as φ μ1).bind fun xs μ2 => f x xs μ2 else .no
abbrev FM2 := D → List D → Sto → R D
def MeM (K : PySem.W.Frag) (mg : Str → Option Value) (f : FM2) (r : V → List V → Hp → VK → Prop) : Prop :=
  ∀ (w : Wd) (H : Hp) (μ : Sto) (W : WX) (σ : L2.St) (x : D) (vx : V) (xs : List D) (vs : List V) (Q : VK), Mt K mg w H μ → Rep K mg w x vx → Reps K mg w xs vs → Post K mg (Rep K mg) w W σ Q (f x xs μ) → r vx vs H Q
theorem tyD_ok {K : PySem.W.Frag} {mg : Str → Option Value} {w : Wd} {H : Hp} {μ : Sto} {T : String} {x : D} {v : V} (M : Mt K mg w H μ) (r : Rep K mg w x v) (h : tyD T x μ = true) : tyV K T v H := by
  have lists : ((lstV μ x).isSome && T == "list") = true → tyV K T v H := by
    intro h
    rw [Bool.and_eq_true] at h
    obtain ⟨xs, q⟩ := Option.isSome_iff_exists.mp h.1
    obtain ⟨a, vs, e, f, rr⟩ := lstV_ok M r q
    subst e
    exact .inl ⟨by simpa using h.2, vs, f⟩
  cases x with
  | str s =>
    cases r
    have e : T = "str" := by simpa [tyD] using h
    exact e
  | int i =>
    cases r
    have e : T = "int" := by simpa [tyD] using h
    exact e
  | _ => exact lists h
section
variable {X : Cx} {W : WX} {o e : Expr} {es : List Expr} {mo : EM} {am : AM} {name : Str} {apos cpos : Pos} {T id : String} {f : FM2} {r : V → List V → Hp → VK → Prop}
theorem em_m (pa : PlainAttrs T) (slot : Slot T name id) (hty : typeOf (.builtin id) = pure (.type "method_descriptor")) (hm : MtR X id r) (hr : MeM X.K X.mg f r) (ho : PEm X W o mo) (ha : PAm X W (e :: es) am)
    (hbase : attributeBase o name X.env (eval o X.env) = eval o X.env := by rfl)
    (hfew : ((backTo cpos (starEach (e :: es) X.env)).all (fun x => !x.1) && (backToKw cpos (keywordEach [] X.env)).all (fun x => x.1.isSome)
      && decide ((e :: es).length + ([] : List Keyword).length + (if ([] : List Keyword).isEmpty then 0 else 1) < 30)) = true := by rfl)
    (hline : (apos.endLine == cpos.line) = true := by rfl) (hs : starEach (e :: es) X.env = (false, eval e X.env) :: starEach es X.env := by rfl) (hplain : (backTo cpos (starEach es X.env)).any (·.1) = false := by rfl) :
    PEm X W (.Call (.Attribute o name apos) (e :: es) [] cpos) (eMeth T f mo am) := PE_imp (pe_bm pa slot hty hm ho ha.pa hbase hfew hline hs hplain) fun σ H Q ⟨w, μ, φ, M, F, h⟩ =>
  tG_seq M F h fun w1 μ1 x vx H1 l1 M1 F1 r1 h1 => by
    split at h1
    · rename_i c
      exact ⟨tyD_ok M1 r1 c, tG_seq M1 F1 h1 fun w2 μ2 xs vs H2 l2 M2 F2 r2 h2 => hr w2 H2 μ2 W σ x vx xs vs Q M2 (r1.mono l2) r2 h2⟩
    · exact h1.elim
theorem em_m0 (pa : PlainAttrs T) (slot : Slot T name id) (hty : typeOf (.builtin id) = pure (.type "method_descriptor")) (hm : MtR X id r) (hr : MeM X.K X.mg f r) (ho : PEm X W o mo)
    (hbase : attributeBase o name X.env (eval o X.env) = eval o X.env := by rfl) (hline : (apos.endLine == cpos.line) = true := by rfl) :
    PEm X W (.Call (.Attribute o name apos) [] [] cpos) (eMeth T f mo aNil) := PE_imp (pe_bm0 pa slot hty hm ho hbase hline) fun σ H Q ⟨w, μ, φ, M, F, h⟩ =>
  tG_seq M F h fun w1 μ1 x vx H1 l1 M1 F1 r1 h1 => by
    split at h1
    · rename_i c
      exact ⟨tyD_ok M1 r1 c, hr w1 H1 μ1 W σ x vx [] [] Q M1 r1 Reps.nil h1⟩
    · exact h1.elim
end
def fAppend : FM2 := fun x xs μ => match x, xs with
  | .ref n, [y] => match μ[n]? with
    | some (.lst ys) => if ys.length < cap then .ok .non (μ.set n (.lst (ys ++ [y]))) else .no
    | _ => .no
  | _, _ => .no
def fExtend : FM2 := fun x xs μ => match x, xs with
  | .ref n, [.lst zs] => match μ[n]? with
    | some (.lst ys) => if ys.length + zs.length ≤ cap then .ok .non (μ.set n (.lst (ys ++ zs))) else .no
    | _ => .no
  | _, _ => .no
def fPop : FM2 := fun x xs μ => match x, xs with
  | .ref n, [] => match μ[n]? with
    | some (.lst ys) => match ys[ys.length - 1]? with
      | some y => .ok y (μ.set n (.lst ys.dropLast))
      | none => .no
    | _ => .no
  | _, _ => .no
def fReverse : FM2 := fun x xs μ => match x, xs with
  | .ref n, [] => match μ[n]? with
    | some (.lst ys) => .ok .non (μ.set n (.lst ys.reverse))
    | _ => .no
  | _, _ => .no
def fClear : FM2 := fun x xs μ => match x, xs with
  | .ref n, [] => match μ[n]? with
    | some (.lst _) => .ok .non (μ.set n (.lst []))
    | _ => .no
  | _, _ => .no
def fSplit : FM2 := fun x xs μ => match x, xs with
  | .str a, [.str b] => if (b.length == 0) = false ∧ a.length + 2 ≤ cap then .ok (.lst ((Txt.split a b).map .str)) μ else .no
  | _, _ => .no
def fPartition : FM2 := fun x xs μ => match x, xs with
  | .str a, [.str b] => if (b.length == 0) = false ∧ a.length ≤ cap then .ok (.tup [.str (Txt.partition a b).1, .str (Txt.partition a b).2.1, .str (Txt.partition a b).2.2]) μ else .no
  | _, _ => .no
def strsOf : List D → Option (List Str)
  | [] => some []
  | .str s :: r => (strsOf r).map fun bs => s :: bs
  | _ => none
theorem strsOf_eq : ∀ {xs : List D} {bs : List Str}, strsOf xs = some bs → xs = bs.map D.str
  | [], _, h => by cases h; rfl
  | d :: r, _, h => by
    cases d with
    | str b =>
      obtain ⟨cs, h1, h2⟩ := Option.map_eq_some_iff.mp (show (strsOf r).map (fun bs => b :: bs) = some _ from h)
      subst h2
      rw [strsOf_eq h1]
      rfl
    | _ => cases h
@[simp] theorem strsOf_map : ∀ bs : List Str, strsOf (bs.map D.str) = some bs
  | [] => rfl
  | b :: bs => by show (strsOf (bs.map D.str)).map _ = _; rw [strsOf_map bs]; rfl
def fJoin : FM2 := fun x xs μ => match x, xs with
  | .str a, [y] => match (match y with | .tup ys => some ys | y => lstV μ y).bind strsOf with
    | some ys => if (ys.map (·.length)).sum + ys.length * a.length ≤ cap then .ok (.str (Txt.join a ys)) μ else .no
    | none => .no
  | _, _ => .no
def fUpper : FM2 := fun x xs μ => match x, xs with
  | .str a, [] => if a.length ≤ cap then .ok (.str (Txt.upper a)) μ else .no
  | _, _ => .no
section
variable {K : PySem.W.Frag} {mg : Str → Option Value}
theorem me_append : MeM K mg fAppend rAppend := fun w H μ W σ x vx xs vs Q M rx r h => by
  unfold fAppend at h
  split at h
  · rename_i n y
    obtain ⟨v, e, rv⟩ := r.one
    obtain ⟨a, e2, ha⟩ := rx
    subst e e2
    split at h
    · rename_i ys q
      split at h
      · rename_i c
        obtain ⟨us, hH, _, rr⟩ := M.ob n a _ ha q
        exact ⟨a, us, v, rfl, rfl, hH, by rw [← rr.length]; exact Nat.lt_of_lt_of_le c cap_size, h.ok (b := V.non) (M.setL ha q (rr.append (Reps.cons rv Reps.nil))) rfl⟩
      · exact h.elim
    · exact h.elim
  · exact h.elim
theorem me_extend : MeM K mg fExtend rExtend := fun w H μ W σ x vx xs vs Q M rx r h => by
  unfold fExtend at h
  split at h
  · rename_i n zs
    obtain ⟨v, e, b, zv, e3, f, rz⟩ := r.one
    obtain ⟨a, e2, ha⟩ := rx
    subst e e2 e3
    split at h
    · rename_i ys q
      split at h
      · rename_i c
        obtain ⟨us, hH, _, rr⟩ := M.ob n a _ ha q
        exact ⟨a, b, us, zv, rfl, rfl, hH, M.fz _ _ f, by rw [← rr.length, ← rz.length]; exact Nat.le_trans c cap_size, h.ok (b := V.non) (M.setL ha q (rr.append rz)) rfl⟩
      · exact h.elim
    · exact h.elim
  · exact h.elim
theorem Reps.dropLast {w : Wd} {ds : List D} {vs : List V} (r : Reps K mg w ds vs) : Reps K mg w ds.dropLast vs.dropLast := by
  rw [List.dropLast_eq_take, List.dropLast_eq_take, r.length]
  exact r.take _
theorem me_pop : MeM K mg fPop rPop := fun w H μ W σ x vx xs vs Q M rx r h => by
  unfold fPop at h
  split at h
  · rename_i n
    cases r
    obtain ⟨a, e2, ha⟩ := rx
    subst e2
    split at h
    · rename_i ys q
      split at h
      · rename_i y q2
        obtain ⟨us, hH, _, rr⟩ := M.ob n a _ ha q
        obtain ⟨v, hv, rv⟩ := rr.get q2
        exact ⟨a, us, v, rfl, rfl, hH, by rw [← rr.length]; exact hv, h.ok (b := v) (M.setL ha q rr.dropLast) rv⟩
      · exact h.elim
    · exact h.elim
  · exact h.elim
theorem me_reverse : MeM K mg fReverse rReverse := fun w H μ W σ x vx xs vs Q M rx r h => by
  unfold fReverse at h
  split at h
  · rename_i n
    cases r
    obtain ⟨a, e2, ha⟩ := rx
    subst e2
    split at h
    · rename_i ys q
      obtain ⟨us, hH, _, rr⟩ := M.ob n a _ ha q
      exact ⟨a, us, rfl, rfl, hH, h.ok (b := V.non) (M.setL ha q rr.reverse) rfl⟩
    · exact h.elim
  · exact h.elim
theorem me_clear : MeM K mg fClear rClear := fun w H μ W σ x vx xs vs Q M rx r h => by
  unfold fClear at h
  split at h
  · rename_i n
    cases r
    obtain ⟨a, e2, ha⟩ := rx
    subst e2
    split at h
    · rename_i ys q
      obtain ⟨us, hH, _, rr⟩ := M.ob n a _ ha q
      exact ⟨a, us, rfl, rfl, hH, h.ok (b := V.non) (M.setL ha q Reps.nil) rfl⟩
    · exact h.elim
  · exact h.elim
theorem me_split : MeM K mg fSplit (fun x xs H Q => ∃ a b, x = .str a ∧ xs = [.str b] ∧ (b.length == 0) = false ∧ a.length + 2 ≤ sizeLine ∧ rNewStrs (Txt.split a b) H Q) := fun w H μ W σ x vx xs vs Q M rx r h => by
  unfold fSplit at h
  split at h
  · rename_i a b
    obtain ⟨v, e, rv⟩ := r.one
    subst e
    cases rx
    cases rv
    split at h
    · rename_i c
      refine ⟨a, b, rfl, rfl, c.1, Nat.le_trans c.2 cap_size, fun p hp => ?_⟩
      obtain ⟨M2, l2⟩ := M.newF (o := .lst ((Txt.split a b).map V.str)) hp
      exact h _ _ _ l2 M2 ⟨p, _, rfl, upd_same, Reps.strs⟩
    · exact h.elim
  · exact h.elim
theorem me_partition : MeM K mg fPartition (fun x xs H Q => ∃ a b, x = .str a ∧ xs = [.str b] ∧ (b.length == 0) = false ∧ a.length ≤ sizeLine ∧
    ∀ p, H p = none → Q (.ref p) (upd H p (.tup [.str (Txt.partition a b).1, .str (Txt.partition a b).2.1, .str (Txt.partition a b).2.2]))) := fun w H μ W σ x vx xs vs Q M rx r h => by
  unfold fPartition at h
  split at h
  · rename_i a b
    obtain ⟨v, e, rv⟩ := r.one
    subst e
    cases rx
    cases rv
    split at h
    · rename_i c
      refine ⟨a, b, rfl, rfl, c.1, Nat.le_trans c.2 cap_size, fun p hp => ?_⟩
      obtain ⟨M2, l2⟩ := M.newF (o := .tup [.str (Txt.partition a b).1, .str (Txt.partition a b).2.1, .str (Txt.partition a b).2.2]) hp
      exact h _ _ _ l2 M2 ⟨p, _, rfl, upd_same, Reps.cons rfl (Reps.cons rfl (Reps.cons rfl Reps.nil))⟩
    · exact h.elim
  · exact h.elim
theorem me_join : MeM K mg fJoin (fun x xs H Q => ∃ a p, ∃ ys : List Str, x = .str a ∧ xs = [.ref p] ∧ (SqL K H p (ys.map V.str) ∨ SqT K H p (ys.map V.str)) ∧
    (ys.map (·.length)).sum + ys.length * a.length ≤ 16777216 ∧ Q (.str (Txt.join a ys)) H) := fun w H μ W σ x vx xs vs Q M rx r h => by
  unfold fJoin at h
  split at h
  · rename_i a y
    obtain ⟨v, e, rv⟩ := r.one
    subst e
    cases rx
    split at h
    · rename_i ys q
      obtain ⟨zs, q1, q2⟩ := Option.bind_eq_some_iff.mp q
      split at h
      · rename_i c
        have fin : ∃ p us, v = .ref p ∧ (SqL K H p us ∨ SqT K H p us) ∧ Reps K mg w zs us := by
          cases y with
          | tup us =>
            cases q1
            obtain ⟨p, us', e, f, rr⟩ := rv
            exact ⟨p, us', e, .inr (SqT.of (M.fz _ _ f)), rr⟩
          | _ =>
            obtain ⟨p, us', e, f, rr⟩ := lstV_ok M rv q1
            exact ⟨p, us', e, .inl f, rr⟩
        obtain ⟨p, us, e, hs, rr⟩ := fin
        subst e
        rw [strsOf_eq q2] at rr
        rw [rr.strs_eq] at hs
        exact ⟨a, p, ys, rfl, rfl, hs, Nat.le_trans c (by decide), h.ok M rfl⟩
      · exact h.elim
    · exact h.elim
  · exact h.elim
theorem me_upper : MeM K mg fUpper (fun x xs H Q => ∃ a, x = .str a ∧ xs = [] ∧ a.length ≤ 5592405 ∧ Q (.str (Txt.upper a)) H) := fun w H μ W σ x vx xs vs Q M rx r h => by
  unfold fUpper at h
  split at h
  · rename_i a
    cases r
    cases rx
    split at h
    · rename_i c
      exact ⟨a, rfl, rfl, Nat.le_trans c (by decide), h.ok M rfl⟩
    · exact h.elim
  · exact h.elim
end
end Mp

namespace Mp
open PySem PySem.Spec PyProof.Rows L2

/-! ### a comprehension whose element may raise out of a call -/
/-- the block's context, with a wish about exceptions -/
abbrev blkX (X : Cx) (s : Shared) (H : Hp) (scope : Scope) (cenv : Env) (fp : List Addr) (xe : Value → Shared → Prop) : Cx := (X.blk s H scope cenv fp).wish xe
/-- the wish at fixed slots -/
abbrev Wat (W : WX) (σ : L2.St) : WX := fun cls d _ H => W cls d σ H
/-- what leaves the block, noted there and let go -/
def outOf (X : Cx) (cenv : Env) : Value → Shared → Prop := notedBy (model X.prog X.w) X.A cenv (CompFails (model X.prog X.w) X.A X.xe cenv)
section
variable {X : Cx} {W : WX}
theorem Un_hide {fs ex : List Addr} {H H' : Hp} {h h1 : Heap} {C : Addr} (u : Un fs ex H H' h h1) (hC : h.objs.size ≤ C) : Un fs ex H H' h (PySem.W.hideAll h1 [C]) := by
  have ne : ∀ {b : Addr} {o : Obj}, h.get? b = some o → b ∉ [C] := fun {b o} e z => by
    have e2 : b = C := List.mem_singleton.mp z
    rw [e2] at e
    exact absurd (Nat.lt_of_lt_of_le (Heap.lt_size e) hC) (Nat.lt_irrefl _)
  exact ⟨fun b o e n h1' h2 => PySem.W.hideAll_get _ (u.keep b o e n h1' h2) (ne e), fun b o e n h1' h2 => let ⟨sl, q⟩ := u.slot b o e n h1' h2; ⟨sl, PySem.W.hideAll_get _ q (ne e)⟩, u.free,
    fun b o e h2 => let ⟨o', q⟩ := u.there b o e h2; ⟨o', PySem.W.hideAll_get _ q (ne e)⟩, u.tups, u.frzs, u.tbls⟩
/-- what a callee lets out within the block goes on to what the def wants -/
theorem psv_blk {pins : List (Addr × Obj)} {σ : L2.St} {H3 : Hp} {s3 : Shared} {scope : Scope} {cl : List (Str × Addr)} {fp : List Addr} (hs : X.stack = X.env :: X.outer) (hf : X.env.frame = some X.env.locals) (tk : Takes X W) (I3 : Inv X pins σ H3 s3)
    (hfp : ∀ b ∈ fp, FpOk X pins H3 b) : Psv (blkX X s3 H3 scope (compEnvC scope cl s3.heap.objs.size X.env) fp (outOf X (compEnvC scope cl s3.heap.objs.size X.env))) (Wat W σ) := by
  intro σb pinsb Hb sb e s' I c
  have hfr : X.A.frames = some (X.env :: X.outer) := by rw [I3.ok.frames, hs]
  generalize hce : compEnvC scope cl s3.heap.objs.size X.env = ce at I ⊢
  have hcf : ce.frame = X.env.frame := by subst hce; rfl
  have hcL : ce.locals = s3.heap.objs.size := by subst hce; rfl
  have xx := XE.of_call (W := Wat W σ) I (fun _ _ _ h => h) c
  obtain ⟨a, _, _, _, _, e0, fl0, _⟩ := c
  subst e0
  obtain ⟨a1, B, sI, pins', σ', H', cls, d, e1, J, nb, up, sky, na, os, ag, wish⟩ := xx
  cases e1
  have sky : HandSPX.FlyingZ B X.stack a (Zc cls d) s'.heap := by
    obtain ⟨_, _, _, oe0, vs0, T0, oT0, ts0, he0, _, hd0, h10, _, _, hT0, hdT0, h30⟩ := fl0
    rcases sky with ⟨_, _, _, oe, vs, he, _, hd, h1⟩ | fl | ⟨_, _, _, oe, vs, T, oT, ts, he, _, hd, h1, _, _, hT, hdT, h3⟩
    · rw [he0] at he
      cases he
      rw [hd0] at hd
      cases hd
      rw [h10] at h1
      cases h1
    · exact fl
    · rw [he0] at he
      cases he
      rw [hd0] at hd
      cases hd
      rw [h10] at h1
      cases h1
      rw [hT0] at hT
      cases hT
      rw [hdT0] at hdT
      cases hdT
      rw [h30] at h3
      cases h3
  rw [hs] at sky
  show wpAny (model X.prog X.w) X.A (noteFrame (.ref a) ce) _ _ s'
  rw [noteFrame_env _ hcf]
  refine HandSPX.looks_onZ Zc.steady hfr hf sky fun h1 hh1 up1 => ?_
  have upI : sI.heap.UpToSlots h1 := up.trans up1
  obtain ⟨m, hn, _⟩ := id J.loc
  have hn : sI.heap.Ns ce.locals m := hn
  refine ⟨m, hn.upToSlots upI, fun h2 m2 hn2 hs2 => ?_⟩
  obtain ⟨k1, k2, k3, oe, vs, T, oT, ts, he, hz, hd, hv1, hnT, hTe, hT, hdT, hv3⟩ := hh1
  have hn1 : h1.Ns ce.locals m := hn.upToSlots upI
  obtain ⟨oC, esC, epC, hoC, hdC, _⟩ := id hn1
  have naC : a ≠ ce.locals := fun z => by rw [z, hoC] at he; cases he; rw [hd] at hdC; cases hdC
  have nTC : T ≠ ce.locals := fun z => by rw [z, hoC] at hT; cases hT; rw [hdT] at hdC; cases hdC
  -- the ground without the block
  obtain ⟨B2, hB2⟩ : ∃ B2 : Heap, B2 = PySem.W.hideAll sI.heap (ce.locals :: frs X.stack) := ⟨_, rfl⟩
  have b2 : ∀ b o, B2.get? b = some o → sI.heap.get? b = some o ∧ b ≠ ce.locals ∧ b ∉ frs X.stack := fun b o q => by
    rw [hB2] at q
    have hm : b ∉ ce.locals :: frs X.stack := fun z => by rw [PySem.W.hideAll_none _ z] at q; cases q
    exact ⟨PySem.W.of_hideAll _ q, fun z => hm (by rw [z]; exact List.mem_cons_self), fun z => hm (List.mem_cons_of_mem _ z)⟩
  have b2B : ∀ b o, B2.get? b = some o → B.get? b = some o := fun b o q => let ⟨x1, _, x3⟩ := b2 b o q; nb b o x1 x3
  have none2 : ∀ b, B.get? b = none → B2.get? b = none := fun b q => by
    cases z : B2.get? b with
    | none => rfl
    | some o => rw [b2B b o z] at q; cases q
  have st2 : B2.StaysIn h2 := fun b o q => (hs2.2 b (b2 b o q).2.1).trans (k1 b o (b2B b o q))
  have ff2 : h2.FunFrames B2 (X.env :: X.outer) := by
    refine funFrames_none (base := B) (Heap.FunFrames.sameBut hs2 hn2 k3) fun L hL => ?_
    rw [hB2]
    exact PySem.W.hideAll_none _ (List.mem_cons_of_mem _ (by rw [hs]; exact hL))
  have tr2 : HandSPX.TracedZ h2 B2 a (Zc cls d) (rawInt X.env.locals) := ⟨oe, vs, T, oT, ts, (hs2.2 a naC).trans he, hz, hd, hv1, none2 T hnT, hTe, (hs2.2 T nTC).trans hT, hdT, hv3⟩
  unfold PySem.passOn
  refine wpAny_bind (wpAny_field ((hs2.2 a naC).trans he) hd hv1 ?_)
  rw [if_neg (show ¬ ((Value.ref T == Value.none) = true) from by simp)]
  rw [hcf, hf]
  refine wpAny_bind (HandSPX.setFlight_anyZ (fr := some X.env.locals) st2 ff2 tr2 fun h3 q1 q2 q3 up3 => ?_)
  refine wpAny_throw (tk _ _ ?_)
  have nH : H' ce.locals = none := J.free
  have e1 : sI.heap.get? = sI.heap.get? := rfl
  refine ⟨a, B2, { sI with heap := PySem.W.hideAll sI.heap [ce.locals] }, pins, σ, H', cls, d, rfl, ?_, fun b o q hb => ?_, fun b o q hnf => ?_, .inr (.inr ?_), na, os, ag, wish⟩
  · refine I3.call' (ch := fp) J.os (Un_hide J.base (by rw [hcL]; exact Nat.le_refl _)) (fun b o q => ?_) J.bare fun b hb => ⟨(hfp b hb).2.2.2.1, (hfp b hb).2.1, (hfp b hb).2.2.2.2.1, (hfp b hb).2.2.2.2.2⟩
    refine (J.hok b o q).stay (fun c u hc r => PySem.W.hideAll_get _ r fun z => ?_) (fun _ r => r) fun _ _ r => r
    have ez : c = ce.locals := List.mem_singleton.mp z
    rcases hc with hc | hc
    · rw [← hc, ez, nH] at q; cases q
    · rw [ez, nH] at hc; cases hc
  · have q' : sI.heap.get? b = some o := PySem.W.of_hideAll _ q
    have hbC : b ≠ ce.locals := fun z => by
      have z2 : (PySem.W.hideAll sI.heap [ce.locals]).get? b = none := PySem.W.hideAll_none _ (by rw [z]; exact List.mem_singleton.mpr rfl)
      rw [z2] at q; cases q
    rw [hB2]
    exact PySem.W.hideAll_get _ q' fun z => by
      rcases List.mem_cons.mp z with z | z
      · exact hbC z
      · exact hb z
  · have q' : sI.heap.get? b = some o := PySem.W.of_hideAll _ q
    have hbC : b ≠ ce.locals := fun z => by
      have z2 : (PySem.W.hideAll sI.heap [ce.locals]).get? b = none := PySem.W.hideAll_none _ (by rw [z]; exact List.mem_singleton.mpr rfl)
      rw [z2] at q; cases q
    obtain ⟨sl, u1⟩ := upI b o q' hnf
    exact up3 b { o with slots := sl } ((hs2.2 b hbC).trans u1) hnf
  · rw [hs]
    exact ⟨q1, none2 a k2, q2, q3⟩

variable {tg iter elt : Expr} {scope : Scope} {own : List (Str × Nat)} {im : IM} {g : GM} {ss : List Nat} {me : EM} {pos : Pos}
theorem em_compX (hc : X.calm = true) (hN : X.N.Nodup) (hs : X.stack = X.env :: X.outer) (hf : X.env.frame = some X.env.locals) (tk : Takes X W) (hi : PIm X W tg iter im) (ok : BlkOk X.N X.env.scope scope own)
    (hg : ∀ (s : Shared) (H : Hp) (C : Addr) (cl : List (Str × Addr)) (fp : List Addr) (xe : Value → Shared → Prop), PGm (blkX X s H scope (compEnvC scope cl C X.env) fp xe) tg g ss)
    (he : ∀ (W' : WX) (s : Shared) (H : Hp) (C : Addr) (cl : List (Str × Addr)) (fp : List Addr) (xe : Value → Shared → Prop), Psv (blkX X s H scope (compEnvC scope cl C X.env) fp xe) W' → PEm (blkX X s H scope (compEnvC scope cl C X.env) fp xe) W' elt me)
    (hss : ∀ i ∈ ss, i ∈ own.map (·.2) := by decide) (hfs : ∀ x, foldedSetIterable iter X.env x = pure x := by intro _; rfl) :
    PEm X W (.ListComp elt [⟨tg, iter, [], 0⟩] scope pos) (eCompX im g (own.map (·.2)) Mp.tYes me) := by
  refine ⟨fun pins s σ H Q I h => ?_⟩
  rw [eval_ListComp]
  have hfree : ∀ y ∈ scope.names, y.2 = .free → ∃ c, X.env.cells.lookup y.1 = some c := fun y hy e => (ok.free y hy e).elim (fun k => I.ok.has _ (.inl k)) fun k => I.ok.has _ (.inr k)
  generalize hvs : own.map (·.2) = vs at hss h
  obtain ⟨w, μ, φ, M, F, h⟩ := h
  have hI : tI X.K X.mg W im σ H (fun J H1 => ∃ w1 μ1 ds, Mt X.K X.mg w1 H1 μ1 ∧ Fm X.K X.mg w1 σ φ ∧ Pres X.K X.mg w1 ds J ∧ Post X.K X.mg (Rep X.K X.mg) w1 W σ Q (compEndX μ1 (compL g vs Mp.tYes me φ μ1.length ds (μ1 ++ [.lst []])))) :=
    tG_seq M F h fun w1 μ1 ds J H1 l1 M1 F1 P1 h1 => ⟨w1, μ1, ds, M1, F1, P1, h1⟩
  refine comprehension_at (use := none) rfl hfs (closure_ok hfree) ok.kind (fun y hy e => by rw [ok.uniq y hy, e]) (thn (hi.run pins s σ H _ I hI) fun xv s1 hx => thn hx fun itv s2 h2 => ?_)
  obtain ⟨it, fp, tn, J, H2, e, I2, T, st2, f2, w1, μ1, ds, M1, F1, P1, h1⟩ := h2
  subst e
  refine wpAny_newObj_type (newEnv_comp ?_) (by show 0 ≤ sizeLine; decide)
  generalize hD : s2.heap.objs.size = Dd
  have hDn : H2 Dd = none := I2.hok.fresh (Nat.le_of_eq hD)
  generalize hs3 : ({ s2 with heap := s2.heap.push { cls := .type "list", data := .seq ([] : List Value).toArray } } : Shared) = s3
  have I3 : Inv X pins σ (upd H2 Dd (.lst [])) s3 := by
    rw [← hs3]
    refine I2.laid (t' := s2.toks) (fun b o e => Heap.get?_push_of_some _ e) (Nat.le_of_eq hD) ⟨Nat.zero_le _, [], 0, .nil, ?_⟩
    rw [← hD]
    exact Heap.get?_push_size _ rfl
  have h3 : s3.heap = s2.heap.push { cls := .type "list", data := .seq ([] : List Value).toArray } := by rw [← hs3]
  have sz : ∀ b ∈ fp, b < s2.heap.objs.size := fun b hb => let ⟨o, e, _⟩ := T.obj _ _ st2 b hb; Heap.lt_size e
  have f3 : ∀ b ∈ fp, FpOk X pins (upd H2 Dd (.lst [])) b ∧ b < s3.heap.objs.size := fun b hb => by
    have hlt := sz b hb
    refine ⟨⟨?_, (f2 b hb).2⟩, by rw [h3, Heap.size_push]; exact Nat.lt_succ_of_lt hlt⟩
    rw [upd_ne (by rw [← hD]; exact Nat.ne_of_lt hlt)]
    exact (f2 b hb).1
  have st3 : tn 0 s3.heap := T.keep _ _ _ st2 fun b _ o e => by rw [h3]; exact Heap.get?_push_of_some _ e
  obtain ⟨M2, l2⟩ := M1.newL (ds := []) (vs := []) hDn Reps.nil
  have hn2 : (⟨w1.α ++ [Dd], w1.F⟩ : Wd).α[μ1.length]? = some Dd := by
    show (w1.α ++ [Dd])[μ1.length]? = some Dd
    rw [← M1.len, List.getElem?_append_right (Nat.le_refl _), Nat.sub_self]
    rfl
  generalize (⟨w1.α ++ [Dd], w1.F⟩ : Wd) = w2 at M2 l2 hn2
  generalize hμ2 : μ1 ++ [Ob.lst []] = μ2 at M2 h1
  generalize hH3 : upd H2 Dd (.lst []) = H3 at I3 M2 f3
  generalize hL : compL g vs Mp.tYes me φ μ1.length ds μ2 = L at h1
  have I4 := (block_start I3 ok hN f3).wish (outOf X (compEnvC scope (cellsFrom (s3.heap.objs.size + 1) scope.names (cloFrom X.env.cells scope.names [])) s3.heap.objs.size X.env))
  have pg := hg s3 H3 s3.heap.objs.size (cellsFrom (s3.heap.objs.size + 1) scope.names (cloFrom X.env.cells scope.names [])) fp (outOf X (compEnvC scope (cellsFrom (s3.heap.objs.size + 1) scope.names (cloFrom X.env.cells scope.names [])) s3.heap.objs.size X.env))
  have pe := he (Wat W σ) s3 H3 s3.heap.objs.size (cellsFrom (s3.heap.objs.size + 1) scope.names (cloFrom X.env.cells scope.names [])) fp _ (psv_blk hs hf tk I3 fun b hb => (f3 b hb).1)
  rw [hvs] at I4
  show codeAny _ _ (.compStart (.ListComp elt [⟨tg, iter, [], 0⟩] scope pos) 0 (.ref it) (.ref Dd) (compEnvC scope (cellsFrom (s3.heap.objs.size + 1) scope.names (cloFrom X.env.cells scope.names [])) s3.heap.objs.size X.env))
    (compEnds (model X.prog X.w) X.A X.xe none (EP X pins σ Q) (.ref Dd) (compEnvC scope (cellsFrom (s3.heap.objs.size + 1) scope.names (cloFrom X.env.cells scope.names [])) s3.heap.objs.size X.env)) { s3 with heap := pushCells (s3.heap.push { cls := .type "dict", data := .dict #[] }) scope.names }
  have nfp : ∀ b ∈ fp, H3 b = none := fun b hb => (f3 b hb).1.1
  generalize hce : compEnvC scope (cellsFrom (s3.heap.objs.size + 1) scope.names (cloFrom X.env.cells scope.names [])) s3.heap.objs.size X.env = ce at I4 pg pe ⊢
  have cL : ce.locals = s3.heap.objs.size := by subst hce; rfl
  generalize hs4 : ({ s3 with heap := pushCells (s3.heap.push { cls := .type "dict", data := .dict #[] }) scope.names } : Shared) = s4 at I4 ⊢
  have st4 : tn 0 s4.heap := T.keep _ _ _ st3 fun b _ o e => by rw [← hs4]; exact pushCells_keeps _ _ _ _ (Heap.get?_push_of_some _ e)
  have stat : ∀ {σ' : L2.St} {H' : Hp} {s' : Shared}, Inv (blkX X s3 H3 scope ce fp (outOf X ce)) [] σ' H' s' → (∀ b ∈ fp, H' b = none) → ∀ b ∈ fp, FpOk (blkX X s3 H3 scope ce fp (outOf X ce)) [] H' b := fun {σ' H' s'} I' hn b hb =>
    ⟨hn b hb, (I'.ok.exf b hb).1, I'.ok.exfs b hb, .inl hb, fun x c e => (I'.ok.exf b hb).2 x c e, fun p hp => absurd (show p ∈ ([] : List (Addr × Obj)) ++ [] from hp) (by simp)⟩
  have loop : codeAny (model X.prog X.w) X.A (.compLoop (.ListComp elt [⟨tg, iter, [], 0⟩] scope pos) 0 (.ref it) (.ref Dd) ce) (compEnds (model X.prog X.w) X.A X.xe none (EP X pins σ Q) (.ref Dd) ce) s4 := by
    refine compLoop_any (fun n s' => ∃ i H' w' μ', Inv (blkX X s3 H3 scope ce fp (outOf X ce)) [] (L2.wipe σ vs) H' s' ∧ tn i s'.heap ∧ (∀ b ∈ fp, H' b = none) ∧ n = ds.length - i ∧ i ≤ ds.length ∧ Le w2 w' ∧ Mt X.K X.mg w' H' μ' ∧ L = compL g vs Mp.tYes me φ μ1.length (ds.drop i) μ') ?_
      (ds.length - 0) ⟨0, H3, w2, μ2, I4, st4, nfp, rfl, Nat.zero_le _, Le.refl _, M2, hL.symm⟩
    rintro n s5 ⟨i, H5, w5, μ5, I5, st5, n5, rfl, hle, l5, M5, e5⟩
    have hα : ∀ {w' : Wd}, Le w2 w' → w'.α[μ1.length]? = some Dd := fun l => l.at hn2
    by_cases hlt : i < ds.length
    · have hd : ds[i]? = some ds[i] := List.getElem?_eq_getElem hlt
      obtain ⟨go, yl⟩ := P1.go i _ hd w5 H5 μ5 (l2.trans l5) M5
      rw [List.drop_eq_getElem_cons hlt] at e5
      generalize ds[i] = d at hd e5 yl
      have ti := T.item (blkX X s3 H3 scope ce fp (outOf X ce)) rfl rfl rfl hc i [] s5 _ H5 (outOf X ce) I5 (stat I5 n5) st5 go
      refine thn ti fun r s6 ⟨u, hr, h6⟩ => ?_
      subst hr
      refine thn h6 fun _ s7 ⟨x, H7, I7, r7, y7, st7, n7⟩ => ?_
      obtain ⟨w7, l7, M7, rep7⟩ := yl x H7 y7
      unfold compL at e5
      cases q : g d (wipeF φ vs) μ5 with
      | none =>
        rw [q] at e5
        dsimp only at e5
        rw [e5] at h1
        exact h1.elim
      | some φ7 =>
        rw [q] at e5
        dsimp only at e5
        have I7' := I7.pinned (stat I7 n7) (T.obj _ _ st7)
        have F7 : Fm X.K X.mg w7 (L2.wipe σ vs) (wipeF φ vs) := (F1.mono ((l2.trans l5).trans l7)).wipe2 vs
        refine thn (pg.run _ s7 _ H7 x u (fun σ8 H8 => H8 = H7 ∧ L2.wipe σ8 vs = L2.wipe σ vs ∧ Fm X.K X.mg w7 σ8 φ7) I7' r7 ⟨w7, μ5, wipeF φ vs, d, φ7, M7, F7, rep7, q, fun σ8 F8 k8 n8 => ⟨rfl, ?_, F8⟩⟩) fun _ s8 ⟨σ8, H8, I8, eH, hw8, F8⟩ => ?_
        · refine wipe_same (n8.trans (wipe_length σ vs)) fun j hj => ?_
          rw [k8 j fun z => hj (hss j z), wipe_at hj]
        subst eH
        refine wpAny_tests_nil ?_
        rw [if_pos rfl]
        have e5 : L = (me φ7 μ5).bind fun x μ2 => match μ2[μ1.length]? with
            | some (.lst acc) => if acc.length < cap then compL g vs Mp.tYes me φ μ1.length (ds.drop (i + 1)) (μ2.set μ1.length (.lst (acc ++ [x]))) else .no
            | _ => .no := e5
        have l17 : Le w1 w7 := (l2.trans l5).trans l7
        refine thn (pe.run _ s8 σ8 H8 (fun y H9 => ∃ w9 μ9 x9, Le w7 w9 ∧ Mt X.K X.mg w9 H9 μ9 ∧ Rep X.K X.mg w9 x9 y ∧ me φ7 μ5 = .ok x9 μ9) I8 ⟨w7, μ5, φ7, M7, F8, ?_⟩) fun z s9 ⟨yv, H9, I9, r9, w9, μ9, x9, l9, M9, rep9, eq9⟩ => ?_
        · cases qe : me φ7 μ5 with
          | ok x9 μ9 => exact fun w9 H9 v l9 M9 r9 => ⟨w9, μ9, x9, l9, M9, r9, rfl⟩
          | er c μ9 =>
            rw [qe, R.bind_er] at e5
            rw [e5] at h1
            intro w9 H9 C l9 M9 hcc
            unfold compEndX at h1
            dsimp only at h1
            by_cases hz : μ9.take μ1.length = μ1
            · rw [if_pos hz] at h1
              obtain ⟨M10, l10, _⟩ := Mt.cut M1 M9 (l17.trans l9) hz
              exact h1 _ H9 C l10 M10 hcc
            · rw [if_neg hz] at h1
              exact h1.elim
          | no =>
            rw [qe, R.bind_no] at e5
            rw [e5] at h1
            exact h1.elim
        rw [eq9, R.bind_ok] at e5
        have hα9 := hα ((l5.trans l7).trans l9)
        cases qn : μ9[μ1.length]? with
        | none =>
          rw [qn] at e5
          dsimp only at e5
          rw [e5] at h1
          exact h1.elim
        | some ob =>
          rw [qn] at e5
          cases ob with
          | dead =>
            dsimp only at e5
            rw [e5] at h1
            exact h1.elim
          | lst acc =>
            dsimp only at e5
            by_cases hz : acc.length < cap
            · rw [if_pos hz] at e5
              obtain ⟨vs9, hH, _, rr⟩ := M9.ob _ _ _ hα9 qn
              refine app_ok (X := blkX X s3 H3 scope ce fp (outOf X ce)) I9 hH (by rw [← rr.length]; exact Nat.lt_of_lt_of_le hz cap_size) r9 fun s10 I10 => ?_
              have M10 := M9.setL hα9 qn (rr.append (Reps.cons rep9 Reps.nil))
              have pin' : ∀ b ∈ fp, ∀ o, s7.heap.get? b = some o → s10.heap.get? b = some o ∧ (upd H9 Dd (.lst (vs9 ++ [yv]))) b = none := fun b hb o e =>
                let z := I10.pin (b, o) (List.mem_append_right _ (List.mem_append_right _ (mem_pinsAt hb e)))
                ⟨z.1, z.2.1⟩
              have hl : (L2.wipe σ vs).length = σ8.length := by rw [← hw8, wipe_length]
              refine ⟨ds.length - (i + 1), by omega, i + 1, _, w9, _, (I10.unpinned (pins := [])).weak hl (fun j v e => ?_), T.keep _ _ _ st7 fun b hb o e => (pin' b hb o e).1, fun b hb => ?_, rfl, hlt, (l5.trans l7).trans l9, M10, e5⟩
              · rw [← hw8] at e
                exact (wipe_some e).1
              · obtain ⟨o, e, _⟩ := T.obj _ _ st7 b hb
                exact (pin' b hb o e).2
            · rw [if_neg hz] at e5
              rw [e5] at h1
              exact h1.elim
    · have e : i = ds.length := by omega
      subst e
      have td := T.done (blkX X s3 H3 scope ce fp (outOf X ce)) rfl rfl rfl hc _ [] s5 _ H5 (outOf X ce) I5 (stat I5 n5) st5 (P1.stop w5 H5 μ5 (l2.trans l5) M5)
      refine thn td fun r s6 ⟨hr, I6⟩ => ?_
      subst hr
      rw [List.drop_length] at e5
      rw [e5] at h1
      have h1 : Post X.K X.mg (Rep X.K X.mg) w1 W σ Q (compEnd μ1 (.ok () μ5)) := h1
      unfold compEnd at h1
      dsimp only at h1
      have I7 : Inv X pins σ H5 s6 := I3.call' (ch := fp) I6.os I6.base I6.hok I6.bare fun b hb => ⟨(f3 b hb).1.2.2.2.1, (f3 b hb).1.2.1, (f3 b hb).1.2.2.2.2.1, (f3 b hb).1.2.2.2.2.2⟩
      have nC : H5 s3.heap.objs.size = none := by
        have z : H5 ce.locals = none := I6.free
        rwa [cL] at z
      obtain ⟨m, hn, _⟩ := I6.loc
      have hn : s6.heap.Ns ce.locals m := hn
      obtain ⟨g0, g1, g2, g3, g4, g5⟩ := I3.fpOk (Nat.le_refl _) nC
      have q5 : Q (.ref Dd) H5 := by
        cases qn : μ5[μ1.length]? with
        | none => rw [qn] at h1; exact h1.elim
        | some ob =>
          rw [qn] at h1
          cases ob with
          | dead => exact h1.elim
          | lst xs =>
            dsimp only at h1
            by_cases hz : μ5.take μ1.length = μ1 ∧ los μ1.length xs = true
            · rw [if_pos hz] at h1
              obtain ⟨w8, l8, M8, r8⟩ := M5.freeze (hα l5) qn
              have ht : (μ5.set μ1.length .dead).take μ1.length = μ1 := by
                rw [List.take_set_of_le (Nat.le_refl _)]
                exact hz.1
              obtain ⟨M9, l9, cut⟩ := Mt.cut M1 M8 ((l2.trans l5).trans l8) ht
              exact h1 _ H5 (.ref Dd) l9 M9 (cut _ _ (by simpa [D.lo] using hz.2) r8)
            · rw [if_neg hz] at h1
              exact h1.elim
      refine ⟨m, hn, fun h'' sb => ⟨.ref Dd, H5, I7.turned (t' := s6.toks) (it := s3.heap.objs.size) (fun b o hb e => ?_) g0 g1 g3 g4 g5, rfl, q5⟩⟩
      exact (sb.2 b (by rw [cL]; exact hb)).trans e
  exact codeAny_compStart_list loop (T.self X.A 0 _ _ _ st4 loop)
end
end Mp

namespace Mp
open PySem PySem.Spec PyProof.Rows L2

/-! ### raise -/
structure ExF (K : PySem.W.Frag) (mg : Str → Option Value) (x : Str) (C : Addr) : Prop where
  m : mg x = some (.ref C)
  ex : PySem.W.excIn K C [.type "ValueError", .type "Exception", .type "BaseException", .type "object"] "ValueError.__new__" = true
  kp : PySem.W.keepIn K (.ref C) = true
  sb : PySem.W.subIn K (.ref C) (.type "BaseException") = some true
  ty : PySem.W.typeIn K (.ref C) = some (.type "type")
section
variable {X : Cx} {W : WX} {C : Addr} {x t : Str} {j : Nat} {p p2 pos pos2 : Pos}
theorem sm_raise (hc : X.calm = true) (tk : Takes X W) (E : ExF X.K X.mg x C) (hg : Gl X x := by rfl) (hdb : (x == ("__debug__" : Str)) = false := by decide) :
    PSm X W (.Raise (some (.Call (.Name x p) [.Constant (.str t) j p2] [] pos)) none pos2) (sRaise x) :=
  PS_imp (ps_raise hc tk (pmk_own PySem.F.excBase_ValueError E.ex E.m E.kp (raises_own E.sb E.ty) hg hdb)) fun D σ H ⟨w, μ, φ, M, F, h⟩ => h w σ H C (Le.refl w) M F E.m
end

/-! ### an exception that is kept behind its suite -/
theorem excP_stays {a C : Addr} : ∀ h1 h2 : Heap, excP a C h1 → (∀ o, h1.get? a = some o → h2.get? a = some o) → excP a C h2 := fun h1 h2 ⟨oe, vs, e, r⟩ k => ⟨oe, vs, k _ e, r⟩
section
variable {X : Cx} {pins : List (Addr × Obj)} {σ : L2.St} {H : Hp} {s : Shared} {a C : Addr} {oe : Obj} {vs : Array Value}
theorem Inv_track (I : Inv X pins σ H s) (ha : s.heap.get? a = some oe) (hc : oe.cls = .ref C) (hd : oe.dict = none) (hv : oe.data = .fields vs) (na : H a = none) (nL : a ≠ X.env.locals) (n0 : X.s_0.heap.get? a = none) (np : ∀ p ∈ X.pn ++ pins, p.1 ≠ a) :
    Inv X pins σ (upd H a (.ext (excP a C))) s := by
  have ne : ∀ {b : Addr} {o : HO}, H b = some o → b ≠ a := fun {b o} e z => by rw [z, na] at e; cases e
  refine ⟨I.ok, I.os, I.bare, ⟨I.base.keep, I.base.slot, fun b o e n hx => ?_, I.base.there, fun b xs e => ?_, fun b o u e => ?_, fun b ps e => ?_⟩, I.loc, I.cell, ?_, fun x c e => ?_, fun p hp => ?_, fun b o e => ?_, I.len⟩
  · rw [upd_ne (fun z => by rw [z, n0] at e; cases e)]
    exact I.base.free b o e n hx
  · have q := I.base.tups b xs e
    rw [upd_ne (ne q)]
    exact q
  · have q := I.base.frzs b o u e
    rw [upd_ne (ne q)]
    exact q
  · obtain ⟨more, q⟩ := I.base.tbls b ps e
    exact ⟨more, by rw [upd_ne (ne q)]; exact q⟩
  · rw [upd_ne (Ne.symm nL)]
    exact I.free
  · have nc : c ≠ a := fun z => by
      obtain ⟨v, o, ho, hdat⟩ := I.cell x c e
      rw [z, ha] at ho
      cases ho
      rw [hv] at hdat
      cases hdat
    rw [upd_ne nc]
    exact I.freeC x c e
  · obtain ⟨e, n, r⟩ := I.pin p hp
    exact ⟨e, by rw [upd_ne (np p hp)]; exact n, r⟩
  · by_cases hb : b = a
    · subst hb
      rw [upd_same] at e
      cases e
      exact ⟨⟨oe, vs, ha, hc, hd, hv⟩, ⟨oe, ha⟩, excP_stays⟩
    · rw [upd_ne hb] at e
      exact (I.hok b o e).stay (fun _ _ _ q => q) (fun c q => by rw [upd_ne (ne q)]; exact q) fun c xs q => by rw [upd_ne (ne q)]; exact q
end

/-! ### try: .. except K as e: y = e -/
/-- what the clause wishes of an exception of the body: it is in slot j then, tracked -/
def wHold (K : PySem.W.Frag) (c : Value) (i j : Nat) (Wout : WX) (D : Ends) : WX := fun cls d σ H =>
  ∃ b, PySem.W.exmOne K cls c = some b ∧ (b = true → ∃ C, cls = .ref C ∧ d = none ∧ ∀ a, H a = none → D.nx (((σ.set i (some (.ref a))).set j (some (.ref a))).set i none) (upd H a (.ext (excP a C)))) ∧ (b = false → Wout cls d σ H)
section
variable {X : Cx} {x n y : Str} {c : Value} {i j : Nat} {body : List Stmt} {np pos pos' py pn2 spos : Pos} {tb : WX → TS} {Wout : WX}
theorem ps_try_hold (hs : X.stack = X.env :: X.outer) (hf : X.env.frame = some X.env.locals) (hex : X.ex = []) (hN : X.N.Nodup) (hi : X.N[i]? = some n) (hln : X.env.kindOf n = some .local) (hj : X.N[j]? = some y) (hly : X.env.kindOf y = some .local) (hij : i ≠ j)
    (hc : Names X x c) (tk : Takes X Wout) (hdb : (n == ("__debug__" : Str)) = false := by decide) (hcd : (n == ("__classdict__" : Str)) = false := by decide)
    (hsw : swapsWith (.Name n pn2) (some (.Name y py)) spos.line X.env = pure false := by rfl)
    (hb : ∀ (W : WX) (pn : List (Addr × Obj)) (xe : Value → Shared → Prop), Takes (X.tr pn xe) W → PassesOwn (model X.prog X.w) X.A X.env xe → PSs (X.tr pn xe) body (tb W)) :
    PS X (.Try body [.ExceptHandler (some (.Name x np)) (some n) [.Assign [.Name y py] (.Name n pn2) spos] pos'] [] [] pos) (fun D σ H => tb (wHold X.K c i j Wout D) D σ H) := by
  refine ⟨fun pins s σ H D I h => ?_⟩
  have ok := I.ok
  have hfr : X.A.frames = some (X.env :: X.outer) := by rw [ok.frames, hs]
  refine wpAny_Try_except (wpAny_mono ((hb (wHold X.K c i j Wout D) (X.pn ++ pins) (fun e s₁ => wpAny (model X.prog X.w) X.A (noteFrame e X.env) (fun _ s₂ => wpAny (model X.prog X.w) X.A (setFlight e none) (fun _ s₃ =>
    wpAny (model X.prog X.w) X.A (handleBy e X.env [.ExceptHandler (some (.Name x np)) (some n) [.Assign [.Name y py] (.Name n pn2) spos] pos']) (SP X pins D) X.xe s₃) X.xe s₂) X.xe s₁) (fun u s' xx => ?_) PassesOwn.looking).run [] s σ H D (I.toTry _) h)
      (fun f s1 hsp => ?_) (fun e s1 he => he))
  · obtain ⟨a, B, sI, pins', σ', H', cls, d, rfl, J', nb, up, sky, na, os, ag, b, hb1, hyes, hno⟩ := xx
    have J : Inv X pins σ' H' sI := J'.ofTry ok
    rw [show (X.tr (X.pn ++ pins) _).stack = X.env :: X.outer from hs] at sky
    show wpAny (model X.prog X.w) X.A (noteFrame (.ref a) X.env) _ _ _
    refine Sky.land Zc.steady hfr hf sky fun h3 fl3 up3 => ?_
    have J3 : Inv X pins σ' H' { s' with heap := h3 } := J.landed nb fl3.1 (up.trans up3) os ag
    obtain ⟨oe3, vs3, he3, hz3, hd3⟩ := fl3.there
    have nfr : a ∉ frs (X.env :: X.outer) := fun hm => by
      obtain ⟨_, o', e', hnf⟩ := fl3.2.2.1.mem hm
      rw [he3] at e'
      cases e'
      exact hnf _ hd3
    have nL : a ≠ X.env.locals := fun z => nfr (List.mem_filterMap.mpr ⟨X.env, List.mem_cons_self, by rw [hf, z]⟩)
    have nF : a ∉ X.fs := fun hm => let ⟨e, he, q⟩ := List.mem_filterMap.mp hm; nfr (List.mem_filterMap.mpr ⟨e, List.mem_cons_of_mem _ he, q⟩)
    have nI : sI.heap.get? a = none := by
      cases z : sI.heap.get? a with
      | none => rfl
      | some o =>
        have := nb a o z (by rw [show (X.tr (X.pn ++ pins) _).stack = X.env :: X.outer from hs]; exact nfr)
        rw [fl3.2.1] at this
        cases this
    have n0 : X.s_0.heap.get? a = none := by
      cases z : X.s_0.heap.get? a with
      | none => rfl
      | some o =>
        obtain ⟨o', q⟩ := J.base.there a o z (by rw [hex]; exact List.not_mem_nil)
        rw [nI] at q
        cases q
    have nP : ∀ p ∈ X.pn ++ pins, p.1 ≠ a := fun p hp z => by
      have q := (J.pin p hp).1
      rw [z, nI] at q
      cases q
    have S3 := J3.suite he3 hd3 na nL nF
    refine wpAny_handleBy_cons (codeAny_handlers_test ?_) (by intro q; cases q)
    have LT : PySem.W.Looks (model X.prog X.w) h3 (typeOf (.ref a)) cls := fun A Q E s k q => wpAny_typeOf_ref (k _ _ he3) (by rw [hz3.1]; exact q)
    have LM := PySem.W.exm_one (M := model X.prog X.w) (J3.kIn) LT hb1
    have test : ∀ {Q : Value → Shared → Prop} {E : Value → Shared → Prop}, Q c { s' with heap := h3 } → wpAny (model X.prog X.w) (X.A.mark (some (.ref a))) (eval (.Name x np) X.env) Q E { s' with heap := h3 } := fun {Q E} q => by
      obtain ⟨hg, hdbg, hm | ⟨hm, hv, hnn⟩⟩ := hc
      · exact ld_glob (X := X.suite a ((a, oe3) :: (X.pn ++ pins))) S3 hg hm q hdbg
      · exact ld_blt (X := X.suite a ((a, oe3) :: (X.pn ++ pins))) S3 hg hm hv q hnn hdbg
    refine test (LM.here ?_)
    cases b with
    | true =>
      obtain ⟨C, eC, ed, goal⟩ := hyes rfl
      refine codeAny_handlers_suite_as (HandSPX.lands_againZ fl3 fun h4 fl4 up4 => ?_)
      have J4 : Inv X pins σ' H' { s' with heap := h4 } := J.landed nb fl4.1 ((up.trans up3).trans up4) os ag
      obtain ⟨oe4, vs4, he4, hz4, hd4⟩ := fl4.there
      have S4 := J4.suite he4 hd4 na nL nF
      refine store_ok (X := X.suite a ((a, oe4) :: (X.pn ++ pins))) (v := .ref a) S4 hN hi (.inl hln) rfl (fun s5 S5 => ?_) (.inr hln)
      have hset : PSs (X.suite a ((a, oe4) :: (X.pn ++ pins))) [.Assign [.Name y py] (.Name n pn2) spos] (tAsg (tVar i) (L2.gName j)) := pss_one (ps_set hN hj (.inl hly) (pe_var hi (.inl hln) hdb hcd) hsw (.inr hly))
      have hlen : i < σ'.length := by rw [J.len]; exact (List.getElem?_eq_some_iff.mp hi).1
      refine wpAny_mono (hset.run [] s5 _ H' { nx := fun σ6 H6 => σ6 = (σ'.set i (some (.ref a))).set j (some (.ref a)) ∧ H6 = H', rt := fun _ _ => False } S5 ⟨.ref a, by rw [List.getElem?_set_self hlen], rfl, rfl⟩) (fun f s6 hsp => ?_) (fun _ _ z => False.elim z)
      cases f with
      | next =>
        obtain ⟨σ6, H6, S6, e6, eH⟩ := hsp
        subst e6 eH
        have p6 := (S6.pin (a, oe4) (List.mem_append_left _ List.mem_cons_self)).1
        have J6 := S6.unsuite ok
        have T6 := Inv_track J6 p6 (hz4.1.trans eC) (hz4.2.trans ed) hd4 na nL n0 nP
        exact gone_ok T6 hN hi hln fun s7 J7 => ⟨_, _, J7, goal a na⟩
      | brk => obtain ⟨_, _, _, z⟩ := hsp; exact z.elim
      | cont => obtain ⟨_, _, _, z⟩ := hsp; exact z.elim
      | ret u => obtain ⟨_, _, _, _, _, z⟩ := hsp; exact z.elim
    | false =>
      refine wpAny_handleBy_nil ?_
      obtain ⟨k1, k2, k3, oe, vs, T, oT, ts', he, hz, hd, h1, hr⟩ := id fl3
      unfold PySem.passOn
      refine wpAny_bind (wpAny_field he hd h1 ?_)
      rw [if_neg (show ¬ ((Value.ref T == Value.none) = true) from by simp)]
      have fin : wpAny (model X.prog X.w) X.A (setFlight (.ref a) X.env.frame) (fun _ s4 => wpAny (model X.prog X.w) X.A (throw (.ref a) : Sem Flow) (SP X pins D) X.xe s4) X.xe { s' with heap := h3 } := by
        rw [hf]
        refine HandSPX.setFlight_upZ fl3 fun h4 hh4 up4 => wpAny_throw (tk _ _ ?_)
        exact ⟨a, B, sI, pins, σ', H', cls, d, rfl, J, nb, (up.trans up3).trans up4, .inr (.inr (by rw [hs]; exact hh4)), na, os, ag, hno rfl⟩
      first
        | exact wpAny_bind (wpAny_pure (wpAny_bind fin))
        | exact wpAny_bind fin
  · cases f with
    | next =>
      obtain ⟨σ', H', J', q⟩ := hsp
      exact wpAny_execs_nil ⟨σ', H', J'.ofTry ok, q⟩
    | brk =>
      obtain ⟨σ', H', J', q⟩ := hsp
      exact ⟨σ', H', J'.ofTry ok, q⟩
    | cont =>
      obtain ⟨σ', H', J', q⟩ := hsp
      exact ⟨σ', H', J'.ofTry ok, q⟩
    | ret u =>
      obtain ⟨v, σ', H', J', r, q⟩ := hsp
      exact ⟨v, σ', H', J'.ofTry ok, r, q⟩
/-- try: body, except K as e: y = e; which classes it takes -/
def sTry (cat : Str → Option Bool) (i j : Nat) (b : SM) : SM := fun φ μ => match b φ μ with
  | .er c φ1 μ1 => match cat c with
    | some true => .nx (((φ1.set i none).set j (some (.exc c))).set i none) μ1
    | some false => .er c φ1 μ1
    | none => .no
  | r => r
theorem sm_try (cat : Str → Option Bool) {mb : SM} (hs : X.stack = X.env :: X.outer) (hf : X.env.frame = some X.env.locals) (hex : X.ex = []) (hN : X.N.Nodup) (hij : i ≠ j)
    (hc : Names X x c) (tk : Takes X Wout) (hcat : ∀ k b C, cat k = some b → X.mg k = some (.ref C) → PySem.W.exmOne X.K (.ref C) c = some b)
    (hb : ∀ (W : WX) (pn : List (Addr × Obj)) (xe : Value → Shared → Prop), Takes (X.tr pn xe) W → PassesOwn (model X.prog X.w) X.A X.env xe → PSsm (X.tr pn xe) W body mb)
    (hi : X.N[i]? = some n := by rfl) (hln : X.env.kindOf n = some .local := by rfl) (hj : X.N[j]? = some y := by rfl) (hly : X.env.kindOf y = some .local := by rfl)
    (hdb : (n == ("__debug__" : Str)) = false := by decide) (hcd : (n == ("__classdict__" : Str)) = false := by decide)
    (hsw : swapsWith (.Name n pn2) (some (.Name y py)) spos.line X.env = pure false := by rfl) :
    PSm X Wout (.Try body [.ExceptHandler (some (.Name x np)) (some n) [.Assign [.Name y py] (.Name n pn2) spos] pos'] [] [] pos) (sTry cat i j mb) :=
  PS_imp (ps_try_hold (tb := fun W => tS X.K X.mg W mb) hs hf hex hN hi hln hj hly hij hc tk hdb hcd hsw hb) fun D σ H ⟨w, μ, φ, M, F, h⟩ => by
    refine ⟨w, μ, φ, M, F, ?_⟩
    unfold sTry at h
    cases q : mb φ μ with
    | er k φ1 μ1 =>
      rw [q] at h
      dsimp only at h
      intro w' σ' H' C l M' F' hk
      cases e : cat k with
      | none => rw [e] at h; exact h.elim
      | some b =>
        rw [e] at h
        refine ⟨b, hcat k b C e hk, fun eb => ?_, fun eb => ?_⟩
        · subst eb
          refine ⟨C, rfl, rfl, fun a na => ?_⟩
          obtain ⟨M2, l2⟩ := M'.newF (o := .ext (excP a C)) na
          refine h _ _ _ (l.trans l2) M2 ?_
          have F2 := F'.mono l2
          have r : Rep X.K X.mg (⟨w'.α, upd w'.F a (.ext (excP a C))⟩ : Wd) (.exc k) (.ref a) := ⟨a, C, rfl, hk, upd_same⟩
          have F3 : Fm X.K X.mg (⟨w'.α, upd w'.F a (.ext (excP a C))⟩ : Wd) (σ'.set i (some (.ref a))) (φ1.set i none) := by
            refine ⟨by rw [List.length_set, List.length_set]; exact F2.1, fun m d hm => ?_⟩
            by_cases hmi : i = m
            · subst hmi
              by_cases hl : i < φ1.length
              · rw [List.getElem?_set_self hl] at hm; cases hm
              · rw [List.getElem?_eq_none (by rw [List.length_set]; omega)] at hm; cases hm
            · rw [List.getElem?_set_ne hmi] at hm
              rw [List.getElem?_set_ne hmi]
              exact F2.2 m d hm
          have F4 := F3.set (i := j) r
          refine ⟨by rw [List.length_set (i := i), List.length_set (i := i)]; exact F4.1, fun m d hm => ?_⟩
          by_cases hmi : i = m
          · subst hmi
            by_cases hl : i < ((φ1.set i none).set j (some (.exc k))).length
            · rw [List.getElem?_set_self hl] at hm; cases hm
            · rw [List.getElem?_eq_none (by rw [List.length_set]; omega)] at hm; cases hm
          · rw [List.getElem?_set_ne hmi] at hm
            rw [List.getElem?_set_ne hmi]
            exact F4.2 m d hm
        · subst eb
          exact h w' σ' H' C l M' F' hk
    | nx φ1 μ1 => rw [q] at h; exact h
    | bk φ1 μ1 => rw [q] at h; exact h
    | ct φ1 μ1 => rw [q] at h; exact h
    | rt d μ1 => rw [q] at h; exact h
    | no => rw [q] at h; exact h
end
end Mp

namespace Mp
open PySem PySem.Spec PyProof.Rows L2

/-! ### isinstance -/
/-- isinstance(x, c), x an exception that was caught -/
def rIsX (K : PySem.W.Frag) : List V → Hp → VK → Prop := fun xs H Q => ∃ (a C : Addr) (c : V) (u : Value) (b : Bool), xs = [.ref a, c] ∧ ClsV c u ∧ H a = some (.ext (excP a C)) ∧ ExcC K C ∧ PySem.W.kitOne K (.ref C) u = some b ∧ Q (.bl b) H
theorem call_isX {X : Cx} : CallR X (.builtin "isinstance") (rIsX X.K) := by
  intro pins s σ H xs us Q I r h
  obtain ⟨a, D, c, u, b, rfl, k, hH, C, e, q⟩ := h
  obtain ⟨u1, u2, rfl, r1, r2⟩ := vals2 r
  cases (show u1 = Value.ref a from r1)
  have e2 := k.eq r2
  subst e2
  obtain ⟨⟨oe, vs, hget, hc, hd, hv⟩, _⟩ := I.hok a _ hH
  have J : PySem.W.InstAt s.heap a oe D none := by
    obtain ⟨oc, od, oda, osl⟩ := oe
    dsimp only at hc hd hv
    subst hc hd hv
    exact ⟨hget, rfl, rfl, trivial⟩
  exact PySem.W.kia_one (PySem.W.handS_kitx_exc C.hg C.hk C.hs C.hd C.ha C.hn C.ht C.hm) I.kIn J e (fun z => nomatch z) fun tk => ⟨.bl b, H, I.kept (t' := tk) fun _ _ z => z, rfl, q⟩
/-- the built-in type of a datum -/
def tyName (μ : Sto) : D → Option String
  | .non => some "NoneType"
  | .bl _ => some "bool"
  | .int _ => some "int"
  | .str _ => some "str"
  | .tup _ => some "tuple"
  | .lst _ => some "list"
  | .rol _ => none
  | .ref n => match μ[n]? with
    | some (.lst _) => some "list"
    | _ => none
  | .exc _ => none
  | .fn _ => none
/-- isinstance: tab answers for built-in types, etab for exceptions of the program -/
def fIsa (tab : String → Option Bool) (etab : Str → Option Bool) : F1 := fun x μ => match x with
  | .exc c => orNo .bl μ (etab c)
  | x => orNo .bl μ ((tyName μ x).bind tab)
theorem tyName_ok {K : PySem.W.Frag} {mg : Str → Option Value} {w : Wd} {H : Hp} {μ : Sto} {x : D} {v : V} {t : String} (M : Mt K mg w H μ) (r : Rep K mg w x v) (h : tyName μ x = some t) : TyX K H v (.type t) := by
  cases x with
  | non => cases r; cases h; exact .base .non
  | bl b => cases r; cases h; exact .base (.bl b)
  | int i => cases r; cases h; exact .base (.int i)
  | str s => cases r; cases h; exact .base (.str s)
  | tup xs => obtain ⟨a, vs, e, f, _⟩ := r; subst e; cases h; exact .base (.tup (M.fz _ _ f))
  | lst xs => obtain ⟨a, vs, e, f, _⟩ := r; subst e; cases h; exact .base (.lst (M.fz _ _ f))
  | rol xs => cases h
  | ref n =>
    obtain ⟨a, e, ha⟩ := r
    subst e
    unfold tyName at h
    dsimp only at h
    split at h
    · rename_i xs q
      cases h
      obtain ⟨vs, hH, _⟩ := M.ob n a _ ha q
      exact .base (.lst hH)
    · cases h
  | exc c => cases h
  | fn x => cases h
section
variable {X : Cx} {W : WX} {e ec : Expr} {m : EM} {cv : V} {cu : Value} {p pos : Pos} {tab : String → Option Bool} {etab : Str → Option Bool}
theorem em_isa (he : PEm X W e m) (hcl : PE X ec (tC cv)) (k : ClsV cv cu) (ht : ∀ t b, tab t = some b → PySem.W.kitOne X.K (.type t) cu = some b) (hx : ∀ c b C, etab c = some b → X.mg c = some (.ref C) → ExcC X.K C ∧ PySem.W.kitOne X.K (.ref C) cu = some b)
    (hm : X.mg "isinstance" = none) (hg : Gl X "isinstance" := by rfl) (hs1 : starEach [e, ec] X.env = (false, eval e X.env) :: starEach [ec] X.env := by rfl) (hs2 : starEach [ec] X.env = (false, eval ec X.env) :: starEach [] X.env := by rfl) (hpl : (backTo pos (starEach [ec] X.env)).any (·.1) = false := by rfl) :
    PEm X W (.Call (.Name "isinstance" p) [e, ec] [] pos) (eUn (fIsa tab etab) m) :=
  PE_imp (pe_callB (CallR.or call_isi call_isX) hg hm (by decide +kernel) (pa_cons he (pa_cons hcl pa_nil hs2) hs1) (by decide) (by decide) hs1 hpl) fun σ H Q ⟨w, μ, φ, M, F, h⟩ =>
    tG_seq M F h fun w1 μ1 x vx H1 l1 M1 F1 r1 h1 => by
      show (rIsi X.K [vx, cv] H1 Q ∨ rIsX X.K [vx, cv] H1 Q)
      have rest : (∀ t b, tyName μ1 x = some t → tab t = some b → Q (.bl b) H1) → ∀ t b, tyName μ1 x = some t → tab t = some b → rIsi X.K [vx, cv] H1 Q := fun q t b h2 h3 =>
        ⟨vx, cv, .type t, cu, b, rfl, k, tyName_ok M1 r1 h2, ht t b h3, q t b h2 h3⟩
      by_cases hex : ∃ c, x = .exc c
      · obtain ⟨c, rfl⟩ := hex
        obtain ⟨a, C, e2, hc, hF⟩ := r1
        subst e2
        unfold fIsa at h1
        dsimp only at h1
        cases q : etab c with
        | none => rw [q] at h1; exact h1.elim
        | some b =>
          rw [q] at h1
          obtain ⟨x1, x2⟩ := hx c b C q hc
          exact .inr ⟨a, C, cv, cu, b, rfl, k, M1.fz _ _ hF, x1, x2, h1.ok M1 rfl⟩
      · have h1 : Post X.K X.mg (Rep X.K X.mg) w1 W σ Q (orNo .bl μ1 ((tyName μ1 x).bind tab)) := by
          unfold fIsa at h1
          split at h1
          · rename_i c
            exact (hex ⟨c, rfl⟩).elim
          · exact h1
        cases q : tyName μ1 x with
        | none => rw [q] at h1; exact h1.elim
        | some t =>
          rw [q] at h1
          cases q2 : tab t with
          | none => rw [Option.bind_some, q2] at h1; exact h1.elim
          | some b =>
            rw [Option.bind_some, q2] at h1
            exact .inl ⟨vx, cv, .type t, cu, b, rfl, k, tyName_ok M1 r1 q, ht t b q2, h1.ok M1 rfl⟩
/-- a < b < c -/
theorem em_chain {a b c : Expr} {op op' : CmpOp} {f g : F2} {r r' : R2} {ma mb mc : EM} (ho : OpR X (compareOp op) r) (hr : OpM X.K X.mg f r) (ho' : OpR X (compareOp op') r') (hr' : OpM X.K X.mg g r') (ha : PEm X W a ma) (hb : PEm X W b mb) (hc : PEm X W c mc) (hm : lastMarks [op, op'] [b, c] = false := by rfl) :
    PEm X W (.Compare a [op, op'] [b, c] pos) (eChain f g ma mb mc) := PE_imp (pe_chain ho ho' ha hb hc hm) fun σ H Q ⟨w, μ, φ, M, F, h⟩ =>
  tG_seq M F h fun w1 μ1 x vx H1 l1 M1 F1 r1 h1 => tG_seq M1 F1 h1 fun w2 μ2 y vy H2 l2 M2 F2 r2 h2 => by
    refine hr w2 H2 μ2 W σ x y vx vy _ M2 (r1.mono l2) r2 ?_
    cases q : f x y μ2 with
    | ok t μ3 =>
      rw [q] at h2
      intro w3 H3 v3 l3 M3 r3
      have h2 := Post.le l3 h2
      cases t with
      | bl k =>
        cases r3
        refine ⟨k, rfl, ?_⟩
        cases k with
        | true =>
          show (if true = true then _ else _)
          rw [if_pos rfl]
          exact tG_seq M3 (F2.mono l3) h2 fun w4 μ4 z vz H4 l4 M4 F4 r4 h4 => hr' w4 H4 μ4 W σ y z vy vz Q M4 (r2.mono (l3.trans l4)) r4 h4
        | false =>
          show (if false = true then _ else _)
          rw [if_neg Bool.false_ne_true]
          exact Post.ok (b := V.bl false) h2 M3 rfl
      | _ => exact h2.elim
    | er c μ3 => rw [q] at h2; exact h2
    | no => rw [q] at h2; exact h2
theorem tm_chain {a b c : Expr} {op op' : CmpOp} {f g : F2} {r r' : R2} {ma mb mc : EM} (ho : OpR X (compareOp op) r) (hr : OpM X.K X.mg f r) (ho' : OpR X (compareOp op') r') (hr' : OpM X.K X.mg g r') (ha : PEm X W a ma) (hb : PEm X W b mb) (hc : PEm X W c mc) (hm : lastMarks [op, op'] [b, c] = false := by rfl)
    (he : ∀ whole, isTrue (.Compare a [op, op'] [b, c] pos) X.env whole = (do let v ← whole; standAt (Expr.Compare a [op, op'] [b, c] pos).pos; holding [v] (truthy v)) := by intro _; rfl) :
    PTm X W (.Compare a [op, op'] [b, c] pos) (tVal (eChain f g ma mb mc)) := tm_val (em_chain ho hr ho' hr' ha hb hc hm) he
/-- a def of the module as a value; a call of a value that is one of some defs -/
theorem em_gfn {x : Str} {f : Addr} (hm : X.mg x = some (.ref f)) (hg : Gl X x := by rfl) (hd : (x == ("__debug__" : Str)) = false := by decide) : PEm X W (.Name x pos) (eC (.fn x)) := em_c (pe_glob (v := .ref f) hg hm rfl hd) fun _ => ⟨f, rfl, hm⟩
def eCallV (tab : Str → Option FM) (f : EM) (as : AM) : EM := fun φ μ => (f φ μ).bind fun x μ1 => match x with
  | .fn n => match tab n with
    | some fm => (as φ μ1).bind fun xs μ2 => fm xs μ2
    | none => .no
  | _ => .no
theorem em_callV {k k' n : Nat} {func : Expr} {es : List Expr} {am : AM} {tab : Str → Option FM} (ht : ∀ x fm, tab x = some fm → FnM X.prog X.w X.K X.mg X.base k x n fm) (hr : Room k' X.A) (hx : Psv X W) (hf : PEm X W func m) (ha : PAm X W (e :: es) am) (hk : k ≤ k' := by decide) (hl : (e :: es).length = n := by rfl)
    (hcall : eval (.Call func (e :: es) [] pos) X.env = (do callWith pos (← eval func X.env) [] (backTo pos (starEach (e :: es) X.env)) (backToKw pos (keywordEach [] X.env))) := by rfl)
    (he : starEach (e :: es) X.env = (false, eval e X.env) :: starEach es X.env := by rfl) (hpl : (backTo pos (starEach es X.env)).any (·.1) = false := by rfl) : PEm X W (.Call func (e :: es) [] pos) (eCallV tab m am) := by
  refine ⟨fun pins s σ H Q I ⟨w, μ, φ, M, F, h⟩ => ?_⟩
  refine PyProof.Rows.Call_ ?_ hcall
  have step : tE X.K X.mg W m σ H (fun v H1 => ∃ x f fd ps fm, v = .ref f ∧ X.mg x = some (.ref f) ∧ PySem.W.keepIn X.K (.ref f) = true ∧ Binds X.K fd ps [] ∧ ps.length = n ∧ FnOk X.prog X.w X.K X.mg X.base (L2.CX X.prog X.w) k f fd ps (spF X.K X.mg fm n) ∧
      tA X.K X.mg W am σ H1 fun vs H2 => spF X.K X.mg fm n vs H2 Q (WE W σ)) :=
    tG_seq M F h fun w1 μ1 x vx H1 l1 M1 F1 r1 h1 => by
      split at h1
      · rename_i y
        split at h1
        · rename_i fm q
          obtain ⟨f, fd, ps, e1, e2, e3, e4, e5⟩ := (ht y fm q).ex
          obtain ⟨f', e6, e7⟩ := r1
          rw [e1] at e7
          cases e7
          refine ⟨y, f, fd, ps, fm, e6, e1, e2, e3, e4, e5, ?_⟩
          refine tG_args ha M1 F1 h1 fun w2 μ2 xs vs H2 l2 M2 F2 r2 n2 h2 => ⟨by rw [← r2.length, n2, hl], w2, μ2, xs, M2, r2, ?_⟩
          cases q3 : fm xs μ2 with
          | ok a μ3 => rw [q3] at h2; exact h2
          | er c μ3 => rw [q3] at h2; exact h2
          | no => rw [q3] at h2; exact h2
        · exact h1.elim
      · exact h1.elim
  refine thn (hf.run pins s σ H _ I step) fun u s1 hu => ?_
  obtain ⟨v, H1, I1, rv, x, f, fd, ps, fm, ev, e1, e2, e3, e4, e5, hargs⟩ := hu
  subst ev
  cases (show u = Value.ref f from rv)
  refine PySem.W.callWith_K (h₀ := X.base) I.ok.mod.kin e2 (thn (ha.pa.run pos pins s1 σ H1 _ I1 hargs) fun us s2 ⟨vs, H2, I2, r2, q2⟩ => ⟨I2.kIn, ?_⟩) he hpl
  exact run_fnS e5 (hr.mono hk) e3 (hx σ) I2 r2 q2
end
end Mp

namespace Mp
open PySem PySem.Spec PyProof.Rows L2

/-! ### minus, a text some times -/
def fNeg : F1 := fun x μ => match x with
  | .int i => .ok (.int (-i)) μ
  | _ => .no
/-- a text n times -/
def mulS (s : Str) (n : Int) : Str := Txt.mul s n
def fMulS : F2 := fun x y μ => match x, y with
  | .int i, .int j => if CMulW i j then .ok (.int (i * j)) μ else .no
  | .str s, .int n => if n ≤ (cap : Int) ∧ 0 ≤ n ∧ s.length * n.toNat ≤ cap then .ok (.str (Txt.mul s n)) μ else .no
  | _, _ => .no
theorem mulOk {s : Str} {n : Int} (h : n ≤ (cap : Int) ∧ 0 ≤ n ∧ s.length * n.toNat ≤ cap) : MulOk s n := by
  have hcap : cap = 1000000 := rfl
  obtain ⟨h1, h0, h2⟩ := h
  rw [hcap] at h1 h2
  have e1 : decide (n < -(2 ^ 63 : Int)) = false := decide_eq_false (by omega)
  have e2 : decide (n ≥ (2 ^ 63 : Int)) = false := decide_eq_false (by omega)
  refine ⟨by rw [e1, e2]; rfl, fun a b c => ?_, fun a b => ?_⟩
  · have hn : 0 < n := by omega
    have hs : (s.length : Int) ≤ 1000000 := by
      have h3 : 1 ≤ n.toNat := by omega
      have h4 : s.length * 1 ≤ s.length * n.toNat := Nat.mul_le_mul_left _ h3
      omega
    have h5 : (1000000 : Int) ≤ (2 ^ 63 - 1) / n := by
      rw [Int.le_ediv_iff_mul_le hn]
      omega
    omega
  · have h6 : cap ≤ sizeLine := cap_size
    rw [hcap] at h6
    exact decide_eq_false (by omega)
def rMulStr : R2 := fun x y H Q => ∃ s n, x = .str s ∧ y = .int n ∧ MulOk s n ∧ Q (.str (Txt.mul s n)) H
theorem op_mulStr {X : Cx} : OpR X (binaryOp .Mult) rMulStr := by
  intro pins s σ H x y v u Q I rx ry h
  obtain ⟨z, n, rfl, rfl, hc, q⟩ := h
  obtain ⟨t, rfl⟩ := rx
  obtain ⟨t2, rfl⟩ := ry
  exact SB.mul hc fun t' k => ⟨.str (Txt.mul z n), H, I.tok k, ⟨t', rfl⟩, q⟩
def rMulAll : R2 := fun x y H Q => rI CMulW (fun i j => .int (i * j)) x y H Q ∨ rMulStr x y H Q
theorem op_mulAll {X : Cx} : OpR X (binaryOp .Mult) rMulAll := OpR_or op_mulW op_mulStr
section
variable {K : PySem.W.Frag} {mg : Str → Option Value}
theorem om_mulS : OpM K mg fMulS rMulAll := fun w H μ W σ x y vx vy Q M rx ry h => by
  unfold fMulS at h
  split at h
  · rename_i i j
    split at h
    · rename_i c
      cases rx
      cases ry
      exact .inl ⟨i, j, rfl, rfl, c, h.ok (b := V.int (i * j)) M rfl⟩
    · exact h.elim
  · rename_i s n
    split at h
    · rename_i c
      cases rx
      cases ry
      exact .inr ⟨s, n, rfl, rfl, mulOk c, h.ok (b := V.str (Txt.mul s n)) M rfl⟩
    · exact h.elim
  · exact h.elim
end
theorem em_neg {X : Cx} {W : WX} {e : Expr} {m : EM} {pos : Pos} (he : PEm X W e m) : PEm X W (.UnaryOp .USub e pos) (eUn fNeg m) := PE_imp (pe_un un_neg he) fun σ H Q ⟨w, μ, φ, M, F, h⟩ =>
  tG_seq M F h fun w1 μ1 x vx H1 l1 M1 F1 r1 h1 => by
    cases x with
    | int i => cases r1; exact ⟨i, rfl, Post.ok (b := V.int (-i)) h1 M1 rfl⟩
    | _ => exact h1.elim
end Mp

namespace Mp
open PySem PySem.Spec PyProof.Rows L2

/-! ### the rest of the walk's kit -/
def fIntS : FA := fun xs μ => match xs with | [.str s] => if s.length ≤ 640 then orNo .int μ (PySem.intText? s) else .no | _ => .no
theorem room65 {A : Around} {k : Nat} (hr : Room k A) : A.units + 65 < cLine := by have := hr.un; omega
section
variable {X : Cx} {W : WX} {e : Expr} {es : List Expr} {am : AM} {pos p : Pos} {mt : TM}
theorem em_len (hm : X.mg "len" = none) (ha : PAm X W [e] am) (hg : Gl X "len" := by rfl) (he : starEach [e] X.env = (false, eval e X.env) :: starEach [] X.env := by rfl) : PEm X W (.Call (.Name "len" p) [e] [] pos) (eFn fLen am) := em_fnB cr_lenAll ca_len hm PySem.boot_len ha hg (by decide) (by decide) he
theorem em_all (hc : X.calm = true) (hm : X.mg "all" = none) (ha : PAm X W [e] am) (hg : Gl X "all" := by rfl) (he : starEach [e] X.env = (false, eval e X.env) :: starEach [] X.env := by rfl) : PEm X W (.Call (.Name "all" p) [e] [] pos) (eFn fAll am) := em_fnB (cr_all hc) ca_all hm PyProof.Rows.boot_all ha hg (by decide) (by decide) he
theorem em_any (hc : X.calm = true) (hm : X.mg "any" = none) (ha : PAm X W [e] am) (hg : Gl X "any" := by rfl) (he : starEach [e] X.env = (false, eval e X.env) :: starEach [] X.env := by rfl) : PEm X W (.Call (.Name "any" p) [e] [] pos) (eFn fAny am) := em_fnB (cr_any hc) ca_any hm PyProof.Rows.boot_any ha hg (by decide) (by decide) he
theorem em_list (hm : X.mg "list" = none) (ha : PAm X W [e] am) (hg : Gl X "list" := by rfl) (he : starEach [e] X.env = (false, eval e X.env) :: starEach [] X.env := by rfl) : PEm X W (.Call (.Name "list" p) [e] [] pos) (eFn fList am) := em_fnT call_list_of ca_list hm PyProof.Rows.boot_list ha hg (by decide) (by decide) he
theorem em_tuple (hm : X.mg "tuple" = none) (ha : PAm X W [e] am) (hg : Gl X "tuple" := by rfl) (he : starEach [e] X.env = (false, eval e X.env) :: starEach [] X.env := by rfl) : PEm X W (.Call (.Name "tuple" p) [e] [] pos) (eFn fTuple am) := em_fnT call_tuple_of ca_tuple hm PyProof.Rows.boot_tuple ha hg (by decide) (by decide) he
theorem em_strI (hm : X.mg "str" = none) (ha : PAm X W [e] am) (hg : Gl X "str" := by rfl) (he : starEach [e] X.env = (false, eval e X.env) :: starEach [] X.env := by rfl) : PEm X W (.Call (.Name "str" p) [e] [] pos) (eFn fStr am) := em_fnT call_str_int ca_str hm PyProof.Rows.boot_str ha hg (by decide) (by decide) he
theorem em_intS (hm : X.mg "int" = none) (ha : PAm X W [e] am) (hg : Gl X "int" := by rfl) (he : starEach [e] X.env = (false, eval e X.env) :: starEach [] X.env := by rfl) : PEm X W (.Call (.Name "int" p) [e] [] pos) (eFn fIntS am) := em_fnT call_int_str ca_intS hm PyProof.Rows.boot_int ha hg (by decide) (by decide) he
end
section
variable {X : Cx} {W : WX} {pos : Pos}
theorem em_gstrE {x s : Str} (hm : ∃ t, X.mg x = some (.str s t)) (hg : Gl X x := by rfl) (hd : (x == ("__debug__" : Str)) = false := by decide) : PEm X W (.Name x pos) (eC (.str s)) := let ⟨_, h⟩ := hm; em_gstr h hg hd
theorem em_gintE {x : Str} {i : Int} (hm : ∃ t, X.mg x = some (.int i t)) (hg : Gl X x := by rfl) (hd : (x == ("__debug__" : Str)) = false := by decide) : PEm X W (.Name x pos) (eC (.int i)) := let ⟨_, h⟩ := hm; em_gint h hg hd
theorem em_gfnF {x : Str} {k n : Nat} {fm : FM} (F : FnM X.prog X.w X.K X.mg X.base k x n fm) (hg : Gl X x := by rfl) (hd : (x == ("__debug__" : Str)) = false := by decide) : PEm X W (.Name x pos) (eC (.fn x)) := let ⟨_, _, _, h, _⟩ := F.ex; em_gfn h hg hd
end
/-! ### tables of answers -/
def tabL {β : Type} (l : List (Str × β)) (c : Str) : Option β := l.lookup c
theorem tabL_nil {β : Type} {P : Str → β → Prop} : ∀ c b, tabL ([] : List (Str × β)) c = some b → P c b := fun _ _ h => by cases h
theorem tabL_cons {β : Type} {P : Str → β → Prop} {x : Str} {b : β} {l : List (Str × β)} (h : P x b) (t : ∀ c b', tabL l c = some b' → P c b') : ∀ c b', tabL ((x, b) :: l) c = some b' → P c b' := fun c b' q => by
  unfold tabL at q
  rw [List.lookup_cons] at q
  split at q
  · rename_i e
    cases q
    have e := beq_iff_eq.mp e
    subst e
    exact h
  · exact t c b' q
def tabS (l : List (String × Bool)) (c : String) : Option Bool := l.lookup c
theorem tabS_nil {P : String → Bool → Prop} : ∀ c b, tabS [] c = some b → P c b := fun _ _ h => by cases h
theorem tabS_cons {P : String → Bool → Prop} {x : String} {b : Bool} {l : List (String × Bool)} (h : P x b) (t : ∀ c b', tabS l c = some b' → P c b') : ∀ c b', tabS ((x, b) :: l) c = some b' → P c b' := fun c b' q => by
  unfold tabS at q
  rw [List.lookup_cons] at q
  split at q
  · rename_i e
    cases q
    have e := beq_iff_eq.mp e
    subst e
    exact h
  · exact t c b' q

/-! ### the law -/
def spLaw (n : Nat) (K : PySem.W.Frag) : Sp := fun vs H Q _ => ∃ (a : Addr) (ns : List Int), vs = [.ref a] ∧ SqL K H a (ns.map V.int) ∧ ns.length ≤ n ∧ ∀ H', Q (.bl true) H'
theorem reps_ints {K : PySem.W.Frag} {mg : Str → Option Value} {w : Wd} : ∀ ns : List Int, Reps K mg w (ns.map D.int) (ns.map V.int)
  | [] => Reps.nil
  | n :: r => Reps.cons rfl (reps_ints r)
theorem law_sp {K : PySem.W.Frag} {mg : Str → Option Value} {fm : FM} {n : Nat} (hp : ∀ ns : List Int, ns.length ≤ n → fm [.rol (ns.map .int)] [] = .ok (.bl true) []) : ∀ vs H Q E, spLaw n K vs H Q E → spF K mg fm 1 vs H Q E := fun vs H Q E ⟨a, ns, e, hS, hl, k⟩ => by
  subst e
  refine ⟨rfl, ⟨[], H⟩, [], [.rol (ns.map .int)], ⟨rfl, fun _ _ e => e, fun i a o e => by simp at e, fun i j a oi oj e => by simp at e⟩, Reps.cons ⟨a, ns.map V.int, rfl, hS, reps_ints ns⟩ Reps.nil, ?_⟩
  rw [hp ns hl]
  intro w' H' v l M r
  cases r
  exact k H'
theorem walkM {l : PySem.W.OpenLaw} {n k : Nat} {q : Program} {loose : List Str} {XP : (Str → Option Value) → Heap → Prop} {YP : World → Heap → Prop} {d : DefRec} {K : Params → PySem.W.Frag} (hn : l.most = some n) (hn2 : n ≤ sizeLine) (hdf : d.params.defaults = []) (hr : Room k callerA)
    (hY : ∀ (w : World) (h : Heap), YP w h → (K w.params).In h)
    (F : ∀ (w : World) (mg : Str → Option Value) (fa : Addr) (h : Heap), (K w.params).In h → h.Ns mainGlobals mg → mg d.name = some (.ref fa) →
      ∃ fd : FuncData, (∀ (s : Shared) (u : Value), BindsTo s fd ⟨[u], []⟩ [("script", u)]) ∧ ∀ base : Heap, (K w.params).In base → base.Ns mainGlobals mg → FnOk l.prog w (K w.params) mg base (L2.CX l.prog w) k fa fd ["script"] (spLaw n (K w.params))) :
    PySem.W.WalkO q loose XP YP l.row.toRowW d [] (fun f vs => PySem.call f vs) :=
  L2.walk_of (n := n) (k := k) (x := "script") (CX := fun w => L2.CX l.prog w) (sp := fun w => spLaw n (K w.params)) hn hn2 hdf hr hY F (fun _ _ a ns hl _ hS => ⟨a, ns, rfl, hS, hl, fun _ => rfl⟩) fun _ _ _ _ _ z => by
    obtain ⟨_, _, _, _, _, _, _, _, _, _, _, _, z⟩ := z
    exact z.elim
end Mp

namespace Mp
open PySem L2

/-! ### the semantics, computed -/
section
variable {a b c : EM} {as : AM} {t u : TM} {φ : Fr} {μ : Sto} {f : F2} {x y : D}
@[simp] theorem eC_ap (d : D) : eC d φ μ = .ok d μ := rfl
@[simp] theorem eBin_ap : eBin f a b φ μ = (a φ μ).bind fun x μ1 => (b φ μ1).bind fun y μ2 => f x y μ2 := rfl
@[simp] theorem eUn_ap (f : F1) : eUn f a φ μ = (a φ μ).bind fun x μ1 => f x μ1 := rfl
@[simp] theorem aNil_ap : aNil φ μ = .ok [] μ := rfl
@[simp] theorem aCons_ap : aCons a as φ μ = (a φ μ).bind fun x μ1 => (as φ μ1).bind fun xs μ2 => .ok (x :: xs) μ2 := rfl
@[simp] theorem eTup_ap : eTup as φ μ = (as φ μ).bind fun xs μ1 => .ok (.tup xs) μ1 := rfl
@[simp] theorem eLst_ap : eLst as φ μ = (as φ μ).bind fun xs μ1 => .ok (.lst xs) μ1 := rfl
@[simp] theorem eNew_ap : eNew as φ μ = (as φ μ).bind fun xs μ1 => .ok (.ref μ1.length) (μ1 ++ [.lst xs]) := rfl
@[simp] theorem eFn_ap (f : List D → Sto → R D) : eFn f as φ μ = (as φ μ).bind fun xs μ1 => f xs μ1 := rfl
@[simp] theorem eIf_ap : eIf t a b φ μ = (t φ μ).bind fun t μ1 => if t = true then a φ μ1 else b φ μ1 := rfl
theorem eAnd_ap : eAnd a b φ μ = (a φ μ).bind fun x μ1 => match x with | .bl true => b φ μ1 | .bl false => .ok (.bl false) μ1 | _ => .no := rfl
theorem eOr_ap : eOr a b φ μ = (a φ μ).bind fun x μ1 => match x with | .bl true => .ok (.bl true) μ1 | .bl false => b φ μ1 | _ => .no := rfl
@[simp] theorem eNot_ap : eNot a φ μ = (a φ μ).bind fun x μ1 => match x with | .bl b => .ok (.bl !b) μ1 | _ => .no := rfl
@[simp] theorem tVal_ap : tVal a φ μ = (a φ μ).bind fun x μ1 => match x with | .bl b => .ok b μ1 | _ => .no := rfl
@[simp] theorem tAnd_ap : tAnd t u φ μ = (t φ μ).bind fun t μ1 => if t = true then u φ μ1 else .ok false μ1 := rfl
@[simp] theorem tOr_ap : tOr t u φ μ = (t φ μ).bind fun t μ1 => if t = true then .ok true μ1 else u φ μ1 := rfl
@[simp] theorem tNot_ap : tNot t φ μ = (t φ μ).bind fun t μ1 => .ok (!t) μ1 := rfl
@[simp] theorem tYes_ap : tYes φ μ = .ok true μ := rfl
@[simp] theorem oNone_ap : oNone φ μ = .ok none μ := rfl
@[simp] theorem oSome_ap : oSome a φ μ = (a φ μ).bind fun x μ1 => match x with | .int i => .ok (some i) μ1 | _ => .no := rfl
@[simp] theorem eSl_ap {l u : OM} : eSl a l u φ μ = (a φ μ).bind fun x μ1 => (l φ μ1).bind fun l μ2 => (u φ μ2).bind fun u μ3 => fSl x l u μ3 := rfl
@[simp] theorem eMeth_ap {T : String} {f : D → List D → Sto → R D} : eMeth T f a as φ μ = (a φ μ).bind fun x μ1 => if tyD T x μ1 = true then (as φ μ1).bind fun xs μ2 => f x xs μ2 else .no := rfl
@[simp] theorem eChain_ap {f g : F2} : eChain f g a b c φ μ = (a φ μ).bind fun x μ1 => (b φ μ1).bind fun y μ2 => (f x y μ2).bind fun t μ3 => match t with | .bl true => (c φ μ3).bind fun z μ4 => g y z μ4 | .bl false => .ok (.bl false) μ3 | _ => .no := rfl
@[simp] theorem eAnd_bl {k : Bool} {μ1 : Sto} (h : a φ μ = .ok (.bl k) μ1) : eAnd a b φ μ = if k = true then b φ μ1 else .ok (.bl false) μ1 := by rw [eAnd_ap, h]; cases k <;> rfl
@[simp] theorem eOr_bl {k : Bool} {μ1 : Sto} (h : a φ μ = .ok (.bl k) μ1) : eOr a b φ μ = if k = true then .ok (.bl true) μ1 else b φ μ1 := by rw [eOr_ap, h]; cases k <;> rfl
variable {s s' : SM} {i : Nat}
@[simp] theorem sNext_ap : sNext φ μ = .nx φ μ := rfl
@[simp] theorem sSeq_ap : sSeq s s' φ μ = (s φ μ).seq s' := rfl
@[simp] theorem sSet_ap : sSet i a φ μ = (a φ μ).then φ fun x μ1 => .nx (φ.set i (some x)) μ1 := rfl
@[simp] theorem sRet_ap : sRet a φ μ = (a φ μ).then φ fun x μ1 => .rt x μ1 := rfl
@[simp] theorem sIf_ap : sIf t s s' φ μ = (t φ μ).then φ fun t μ1 => if t = true then s φ μ1 else s' φ μ1 := rfl
@[simp] theorem sDrop_ap : sDrop a φ μ = (a φ μ).then φ fun _ μ1 => .nx φ μ1 := rfl
@[simp] theorem sRaise_ap (c : Str) : sRaise c φ μ = .er c φ μ := rfl
@[simp] theorem sAsg_ap {g : GM} : sAsg g a φ μ = (a φ μ).then φ fun x μ1 => match g x φ μ1 with | some φ' => .nx φ' μ1 | none => .no := rfl
@[simp] theorem gName_ap (d : D) : gName i d φ μ = some (φ.set i (some d)) := rfl
@[simp] theorem gTup_tup {gs : GsM} (ds : List D) : gTup gs (.tup ds) φ μ = gs ds φ μ := rfl
@[simp] theorem gNil_ap : gNil [] φ μ = some φ := rfl
@[simp] theorem gCons_ap {g : GM} {gs : GsM} (d : D) (r : List D) : gCons g gs (d :: r) φ μ = (g d φ μ).bind fun φ' => gs r φ' μ := rfl
@[simp] theorem sFor_ap {im : IM} {g : GM} {kill : List Nat} : sFor im g kill s φ μ = (im φ μ).then φ fun ds μ1 => forL g kill s ds (wipeF φ kill) μ1 := rfl
@[simp] theorem iOf_ap : iOf a φ μ = (a φ μ).bind fun x μ1 => match items x with | some ds => .ok ds μ1 | none => .no := rfl
@[simp] theorem wipeF_nil : wipeF φ [] = φ := rfl
@[simp] theorem wipeF_cons (v : Nat) (vs : List Nat) : wipeF φ (v :: vs) = (wipeF φ vs).set v none := rfl
@[simp] theorem items_tup (xs : List D) : items (.tup xs) = some xs := rfl
@[simp] theorem items_lst (xs : List D) : items (.lst xs) = some xs := rfl
@[simp] theorem items_rol (xs : List D) : items (.rol xs) = some xs := rfl
@[simp] theorem items_str (z : Str) : items (.str z) = some (z.cps.toList.map fun c => .str ⟨#[c]⟩) := rfl
@[simp] theorem lstV_lst (xs : List D) : lstV μ (.lst xs) = some xs := rfl
@[simp] theorem lstV_rol (xs : List D) : lstV μ (.rol xs) = some xs := rfl
theorem lstV_ref (n : Nat) {xs : List D} (h : μ[n]? = some (.lst xs)) : lstV μ (.ref n) = some xs := by unfold lstV; dsimp only; rw [h]
@[simp] theorem eVar0 {d : D} : eVar 0 (some d :: φ) μ = .ok d μ := rfl
variable {p0 p1 p2 p3 p4 p5 p6 p7 p8 : Option D} {d : D}
@[simp] theorem eVar1 : eVar 1 (p0 :: some d :: φ) μ = .ok d μ := rfl
@[simp] theorem eVar2 : eVar 2 (p0 :: p1 :: some d :: φ) μ = .ok d μ := rfl
@[simp] theorem eVar3 : eVar 3 (p0 :: p1 :: p2 :: some d :: φ) μ = .ok d μ := rfl
@[simp] theorem eVar4 : eVar 4 (p0 :: p1 :: p2 :: p3 :: some d :: φ) μ = .ok d μ := rfl
@[simp] theorem eVar5 : eVar 5 (p0 :: p1 :: p2 :: p3 :: p4 :: some d :: φ) μ = .ok d μ := rfl
@[simp] theorem eVar6 : eVar 6 (p0 :: p1 :: p2 :: p3 :: p4 :: p5 :: some d :: φ) μ = .ok d μ := rfl
@[simp] theorem eVar7 : eVar 7 (p0 :: p1 :: p2 :: p3 :: p4 :: p5 :: p6 :: some d :: φ) μ = .ok d μ := rfl
@[simp] theorem eVar8 : eVar 8 (p0 :: p1 :: p2 :: p3 :: p4 :: p5 :: p6 :: p7 :: some d :: φ) μ = .ok d μ := rfl
@[simp] theorem eVar9 : eVar 9 (p0 :: p1 :: p2 :: p3 :: p4 :: p5 :: p6 :: p7 :: p8 :: some d :: φ) μ = .ok d μ := rfl
end
/-! numbers, texts -/
section
variable {μ : Sto}
@[simp] theorem fAdd_int (i j : Int) : fAdd (.int i) (.int j) μ = .ok (.int (i + j)) μ := rfl
@[simp] theorem fAdd_str (s t : Str) : fAdd (.str s) (.str t) μ = if s.length + t.length ≤ cap then .ok (.str (s ++ t)) μ else .no := rfl
@[simp] theorem fAdd_lst (s t : List D) : fAdd (.lst s) (.lst t) μ = if s.length + t.length ≤ cap then .ok (.lst (s ++ t)) μ else .no := rfl
@[simp] theorem fSub_int (i j : Int) : fSub (.int i) (.int j) μ = .ok (.int (i - j)) μ := rfl
@[simp] theorem fNeg_int (i : Int) : fNeg (.int i) μ = .ok (.int (-i)) μ := rfl
@[simp] theorem fMod_int (i j : Int) : fMod (.int i) (.int j) μ = if 0 < j then .ok (.int (i % j)) μ else .no := rfl
theorem fDiv_int (i j : Int) : fDiv (.int i) (.int j) μ = if CDivW i j then .ok (.int (i / j)) μ else .no := rfl
theorem fMul_int (i j : Int) : fMul (.int i) (.int j) μ = if CMulW i j then .ok (.int (i * j)) μ else .no := rfl
theorem fPow_int (i j : Int) : fPow (.int i) (.int j) μ = if CPow i j then .ok (.int (i ^ j.toNat)) μ else .no := rfl
theorem log2_lt {n k : Nat} (h : n < 2 ^ k) (hk : 0 < k) : n.log2 < k := by
  by_cases h0 : n = 0
  · subst h0; simpa using hk
  · exact (Nat.log2_lt h0).mpr h
theorem div_ok {i j : Int} (h0 : 0 < j) (h : j < 2 ^ 8000) : fDiv (.int i) (.int j) μ = .ok (.int (i / j)) μ := by
  have hn : j.natAbs < 2 ^ 8000 := by
    have e : ((2 : Int) ^ 8000) = ((2 ^ 8000 : Nat) : Int) := by norm_cast
    rw [e] at h
    omega
  exact if_pos ⟨h0, Nat.lt_trans (log2_lt hn (by decide)) (by decide)⟩
/-- a small divisor -/
theorem div_sm {i j : Int} (h0 : 0 < j) (h : j < 1000000000000) : fDiv (.int i) (.int j) μ = .ok (.int (i / j)) μ := by
  have hn : j.natAbs < 2 ^ 40 := by omega
  exact if_pos ⟨h0, Nat.lt_trans (log2_lt hn (by decide)) (by decide)⟩
theorem mul_ok {i j : Int} {a b : Nat} (h1 : i.natAbs < 2 ^ a) (h2 : j.natAbs < 2 ^ b) (ha : 0 < a) (hb : 0 < b) (h : a + b < 1000000) : fMul (.int i) (.int j) μ = .ok (.int (i * j)) μ := by
  have e1 := log2_lt h1 ha
  have e2 := log2_lt h2 hb
  exact if_pos (show i.natAbs.log2 + j.natAbs.log2 < 1000000 by omega)
@[simp] theorem cmpI_int (p : Int → Int → Bool) (i j : Int) : fCmpI p (.int i) (.int j) μ = .ok (.bl (p i j)) μ := rfl
@[simp] theorem fLen_str (s : Str) : fLen [.str s] μ = if s.length ≤ cap then .ok (.int s.length) μ else .no := rfl
@[simp] theorem fLen_tup (s : List D) : fLen [.tup s] μ = .ok (.int s.length) μ := rfl
@[simp] theorem fLen_lst (s : List D) : fLen [.lst s] μ = .ok (.int s.length) μ := rfl
@[simp] theorem fLen_rol (s : List D) : fLen [.rol s] μ = .ok (.int s.length) μ := rfl
@[simp] theorem fList_tup (s : List D) : fList [.tup s] μ = .ok (.lst s) μ := rfl
@[simp] theorem fList_lst (s : List D) : fList [.lst s] μ = .ok (.lst s) μ := rfl
@[simp] theorem fTuple_lst (s : List D) : fTuple [.lst s] μ = .ok (.tup s) μ := rfl
@[simp] theorem fTuple_tup (s : List D) : fTuple [.tup s] μ = .ok (.tup s) μ := rfl
@[simp] theorem tyD_str (s : Str) : tyD "str" (.str s) μ = true := by unfold tyD; rfl
theorem join_lst {a : Str} {ss : List Str} (h : (ss.map (·.length)).sum + ss.length * a.length ≤ cap) : fJoin (.str a) [.lst (ss.map .str)] μ = .ok (.str (Txt.join a ss)) μ := by
  show (match (lstV μ (.lst (ss.map .str))).bind strsOf with | some ys => if (ys.map (·.length)).sum + ys.length * a.length ≤ cap then .ok (.str (Txt.join a ys)) μ else .no | none => .no : R D) = _
  rw [lstV_lst, Option.bind_some, strsOf_map]
  exact if_pos h
@[simp] theorem fSplit_str (a b : Str) : fSplit (.str a) [.str b] μ = if (b.length == 0) = false ∧ a.length + 2 ≤ cap then .ok (.lst ((Txt.split a b).map .str)) μ else .no := rfl
@[simp] theorem fPartition_str (a b : Str) : fPartition (.str a) [.str b] μ = if (b.length == 0) = false ∧ a.length ≤ cap then .ok (.tup [.str (Txt.partition a b).1, .str (Txt.partition a b).2.1, .str (Txt.partition a b).2.2]) μ else .no := rfl
/-! subscripts -/
theorem ix_lst {xs : List D} {i : Int} {d : D} (h : L2.atI xs i = some d) : fIx (.lst xs) (.int i) μ = .ok d μ := by
  show (match lstV μ (.lst xs) with | some xs => orNo id μ (L2.atI xs i) | none => .no : R D) = _
  rw [lstV_lst]
  show orNo id μ (L2.atI xs i) = _
  rw [h]; rfl
theorem ix_rol {xs : List D} {i : Int} {d : D} (h : L2.atI xs i = some d) : fIx (.rol xs) (.int i) μ = .ok d μ := by
  show (match lstV μ (.rol xs) with | some xs => orNo id μ (L2.atI xs i) | none => .no : R D) = _
  rw [lstV_rol]
  show orNo id μ (L2.atI xs i) = _
  rw [h]; rfl
theorem ix_tup {xs : List D} {i : Int} {d : D} (h : L2.atI xs i = some d) : fIx (.tup xs) (.int i) μ = .ok d μ := by
  show orNo id μ (L2.atI xs i) = _
  rw [h]; rfl
theorem ix_str {s : Str} {i : Int} {c : Nat} (hl : s.length ≤ cap) (h : L2.atI s.cps.toList i = some c) : fIx (.str s) (.int i) μ = .ok (.str ⟨#[c]⟩) μ := by
  show (if s.length ≤ cap then orNo (fun c => .str ⟨#[c]⟩) μ (L2.atI s.cps.toList i) else .no : R D) = _
  rw [if_pos hl, h]; rfl
theorem atI_nn {α : Type} {xs : List α} {i : Int} {k : Nat} (e : i = (k : Int)) (h : k < xs.length) : L2.atI xs i = some (xs[k]'h) := by
  subst e
  exact L2.atI_nat (List.getElem?_eq_getElem h)
theorem atI_neg {α : Type} {xs : List α} {i : Int} {k : Nat} (e : i = -((k : Int) + 1)) (h : k < xs.length) : L2.atI xs i = some (xs[xs.length - 1 - k]'(by omega)) := by
  have hn : L2.ixN xs.length i = some (xs.length - 1 - k) := by
    unfold L2.ixN
    rw [if_neg (by omega), if_pos (by omega)]
    congr 1
    omega
  unfold L2.atI
  rw [hn, Option.bind_some]
  exact List.getElem?_eq_getElem _
end
end Mp

namespace Mp
open PySem L2

/-! ### defs, loops, comprehensions: what they come to -/
theorem fin_ok {μ r : Sto} {d : D} (hl : d.lo μ.length = true) : fin μ d (μ ++ r) = .ok d μ := by
  unfold fin
  rw [if_pos ⟨by simp, hl⟩]
theorem mDef_rt {N : Nat} {b : SM} {ds : List D} {μ : Sto} {d : D} (r : Sto) (h : b (ds.map some ++ List.replicate (N - ds.length) none) μ = .rt d (μ ++ r)) (hl : d.lo μ.length = true) : mDef N b ds μ = .ok d μ := by
  unfold mDef
  rw [h]
  exact fin_ok hl
theorem mDef_rt0 {N : Nat} {b : SM} {ds : List D} {μ : Sto} {d : D} (h : b (ds.map some ++ List.replicate (N - ds.length) none) μ = .rt d μ) (hl : d.lo μ.length = true) : mDef N b ds μ = .ok d μ :=
  mDef_rt [] (by rw [h, List.append_nil]) hl
theorem mDef_er {N : Nat} {b : SM} {ds : List D} {μ : Sto} {c : Str} {φ : Fr} (r : Sto) (h : b (ds.map some ++ List.replicate (N - ds.length) none) μ = .er c φ (μ ++ r)) : mDef N b ds μ = .er c μ := by
  unfold mDef
  rw [h]
  dsimp only
  rw [if_pos (by simp)]
theorem mDef_er0 {N : Nat} {b : SM} {ds : List D} {μ : Sto} {c : Str} {φ : Fr} (h : b (ds.map some ++ List.replicate (N - ds.length) none) μ = .er c φ μ) : mDef N b ds μ = .er c μ :=
  mDef_er [] (by rw [h, List.append_nil])
theorem los_all (n : Nat) : ∀ xs : List D, los n xs = xs.all (D.lo n)
  | [] => rfl
  | x :: r => by show (x.lo n && los n r) = _; rw [los_all n r]; rfl
theorem los_of {n : Nat} {xs : List D} (h : ∀ x ∈ xs, x.lo n = true) : los n xs = true := by rw [los_all, List.all_eq_true]; exact h
@[simp] theorem lo_str (n : Nat) (s : Str) : (D.str s).lo n = true := rfl
@[simp] theorem lo_int (n : Nat) (s : Int) : (D.int s).lo n = true := rfl
@[simp] theorem lo_bl (n : Nat) (s : Bool) : (D.bl s).lo n = true := rfl
@[simp] theorem lo_non (n : Nat) : D.non.lo n = true := rfl
@[simp] theorem lo_tup (n : Nat) (xs : List D) : (D.tup xs).lo n = los n xs := rfl
@[simp] theorem lo_lst (n : Nat) (xs : List D) : (D.lst xs).lo n = los n xs := rfl
@[simp] theorem lo_rol (n : Nat) (xs : List D) : (D.rol xs).lo n = los n xs := rfl
@[simp] theorem los_nil (n : Nat) : los n [] = true := rfl
@[simp] theorem los_cons (n : Nat) (x : D) (r : List D) : los n (x :: r) = (x.lo n && los n r) := rfl
@[simp] theorem los_strs (n : Nat) (ss : List Str) : los n (ss.map .str) = true := los_of fun x h => by obtain ⟨s, _, rfl⟩ := List.mem_map.mp h; rfl
/-- the store's end -/
@[simp] theorem end_get (μ : Sto) (o : Ob) : (μ ++ [o])[μ.length]? = some o := by simp
@[simp] theorem end_set (μ : Sto) (o o' : Ob) : (μ ++ [o]).set μ.length o' = μ ++ [o'] := by simp
theorem append_end {μ : Sto} {ys : List D} {y : D} (h : ys.length < cap) : fAppend (.ref μ.length) [y] (μ ++ [Ob.lst ys]) = .ok .non (μ ++ [Ob.lst (ys ++ [y])]) := by
  show (match (μ ++ [Ob.lst ys])[μ.length]? with | some (Ob.lst zs) => if zs.length < cap then R.ok D.non ((μ ++ [Ob.lst ys]).set μ.length (Ob.lst (zs ++ [y]))) else .no | _ => .no : R D) = _
  rw [end_get]
  show (if ys.length < cap then _ else _) = _
  rw [if_pos h, end_set]
@[simp] theorem tyD_end {μ : Sto} {ys : List D} : tyD "list" (.ref μ.length) (μ ++ [.lst ys]) = true := by
  show ((lstV (μ ++ [Ob.lst ys]) (.ref μ.length)).isSome && "list" == "list") = true
  rw [lstV_ref _ (end_get μ _)]
  rfl
@[simp] theorem lstV_end {μ : Sto} {ys : List D} : lstV (μ ++ [.lst ys]) (.ref μ.length) = some ys := lstV_ref _ (end_get μ _)
theorem sFz_end {i : Nat} {φ : Fr} {μ : Sto} {ys : List D} (h : φ[i]? = some (some (.ref μ.length))) : sFz i φ (μ ++ [.lst ys]) = .nx (φ.set i (some (.lst ys))) (μ ++ [.dead]) := by
  unfold sFz
  rw [h]
  dsimp only
  rw [end_get]
  dsimp only
  rw [end_set]
/-- a loop, by an invariant -/
theorem forL_ind {g : GM} {kill : List Nat} {b : SM} (P : Nat → Fr → Sto → Prop) : ∀ (ds : List D) (k : Nat) (φ : Fr) (μ : Sto), P k φ μ →
    (∀ i d φ μ, ds[i]? = some d → P (k + i) φ μ → ∃ φ' φ1 μ1, g d φ μ = some φ' ∧ b φ' μ = .nx φ1 μ1 ∧ P (k + i + 1) (wipeF φ1 kill) μ1) → ∃ φ' μ', forL g kill b ds φ μ = .nx φ' μ' ∧ P (k + ds.length) φ' μ'
  | [], k, φ, μ, h, _ => ⟨φ, μ, rfl, h⟩
  | d :: r, k, φ, μ, h, hs => by
    obtain ⟨φ', φ1, μ1, e1, e2, h1⟩ := hs 0 d φ μ rfl h
    obtain ⟨φ2, μ2, e3, h2⟩ := forL_ind P r (k + 1) (wipeF φ1 kill) μ1 h1 fun i d φ μ hi hp => by
      have z := hs (i + 1) d φ μ hi (by rw [show k + (i + 1) = k + 1 + i by omega]; exact hp)
      rw [show k + (i + 1) + 1 = k + 1 + i + 1 by omega] at z
      exact z
    refine ⟨φ2, μ2, ?_, by rw [List.length_cons, show k + (r.length + 1) = k + 1 + r.length by omega]; exact h2⟩
    unfold forL
    rw [e1]
    dsimp only
    rw [e2]
    exact e3
/-- a loop that goes by, or stops at the first of some kind -/
theorem forL_rt {α : Type} {k : α → D} {g : GM} {kill : List Nat} {b : SM} {φ : Fr} {μ : Sto} {v : D} (P : α → Bool) : ∀ {ds : List α}, (∀ d ∈ ds, ∃ φ', g (k d) φ μ = some φ' ∧ (P d = true → b φ' μ = .rt v μ) ∧ (P d = false → ∃ φ1, b φ' μ = .nx φ1 μ ∧ wipeF φ1 kill = φ)) →
    forL g kill b (ds.map k) φ μ = if ds.any P = true then .rt v μ else .nx φ μ
  | [], _ => rfl
  | d :: r, h => by
    obtain ⟨φ', e1, e2, e3⟩ := h d (List.mem_cons_self ..)
    have ih := forL_rt (v := v) P (ds := r) fun z hz => h z (List.mem_cons_of_mem _ hz)
    rw [List.map_cons]
    unfold forL
    rw [e1]
    dsimp only
    cases q : P d with
    | true => rw [e2 q, List.any_cons, q]; rfl
    | false =>
      obtain ⟨φ1, e4, e5⟩ := e3 q
      rw [e4, List.any_cons, q, Bool.false_or]
      dsimp only
      rw [e5]
      exact ih
theorem forL_er {α : Type} {k : α → D} {g : GM} {kill : List Nat} {b : SM} {φ : Fr} {μ : Sto} {c : Str} (P : α → Bool) : ∀ {ds : List α}, (∀ d ∈ ds, ∃ φ', g (k d) φ μ = some φ' ∧ (P d = true → ∃ φ1, b φ' μ = .er c φ1 μ) ∧ (P d = false → ∃ φ1, b φ' μ = .nx φ1 μ ∧ wipeF φ1 kill = φ)) →
    (ds.any P = true → ∃ φ1, forL g kill b (ds.map k) φ μ = .er c φ1 μ) ∧ (ds.any P = false → forL g kill b (ds.map k) φ μ = .nx φ μ)
  | [], _ => ⟨fun h => by simp at h, fun _ => rfl⟩
  | d :: r, h => by
    obtain ⟨φ', e1, e2, e3⟩ := h d (List.mem_cons_self ..)
    have ih := forL_er (c := c) P (ds := r) fun z hz => h z (List.mem_cons_of_mem _ hz)
    rw [List.map_cons]
    unfold forL
    rw [e1]
    dsimp only
    cases q : P d with
    | true =>
      obtain ⟨φ1, e4⟩ := e2 q
      rw [e4, List.any_cons, q]
      exact ⟨fun _ => ⟨φ1, rfl⟩, fun z => by simp at z⟩
    | false =>
      obtain ⟨φ1, e4, e5⟩ := e3 q
      rw [e4, List.any_cons, q, Bool.false_or]
      dsimp only
      rw [e5]
      exact ih
/-- [e for .. in ds] -/
theorem compL_map {α : Type} {k : α → D} {g : GM} {kill : List Nat} {t : TM} {e : EM} {φ : Fr} {μ : Sto} {f : α → D} : ∀ (ds : List α) (acc : List D), (∀ d ∈ ds, ∀ μ', ∃ φ', g (k d) (wipeF φ kill) μ' = some φ' ∧ t φ' μ' = .ok true μ' ∧ e φ' μ' = .ok (f d) μ') → acc.length + ds.length ≤ cap →
    compL g kill t e φ μ.length (ds.map k) (μ ++ [.lst acc]) = .ok () (μ ++ [.lst (acc ++ ds.map f)])
  | [], acc, _, _ => by rw [List.map_nil, List.map_nil, List.append_nil]; rfl
  | d :: r, acc, h, hl => by
    obtain ⟨φ', e1, e2, e3⟩ := h d (List.mem_cons_self ..) (μ ++ [.lst acc])
    rw [List.length_cons] at hl
    rw [List.map_cons]
    unfold compL
    rw [e1]
    dsimp only
    rw [e2, R.bind_ok, if_pos rfl, e3, R.bind_ok, end_get]
    dsimp only
    rw [if_pos (by omega), end_set, compL_map r (acc ++ [f d]) (fun z hz => h z (List.mem_cons_of_mem _ hz)) (by rw [List.length_append, List.length_singleton]; omega), List.append_assoc]
    rfl
theorem compEnd_ok {μ : Sto} {xs : List D} (h : los μ.length xs = true) : compEnd μ (.ok () (μ ++ [.lst xs])) = .ok (.lst xs) μ := by
  unfold compEnd
  dsimp only
  rw [end_get]
  dsimp only
  rw [if_pos ⟨by simp, h⟩]
theorem eComp_map {α : Type} (k : α → D) {im : IM} {g : GM} {kill : List Nat} {t : TM} {e : EM} {φ : Fr} {μ : Sto} {ds : List α} (f : α → D) (hi : im φ μ = .ok (ds.map k) μ) (h : ∀ d ∈ ds, ∀ μ', ∃ φ', g (k d) (wipeF φ kill) μ' = some φ' ∧ t φ' μ' = .ok true μ' ∧ e φ' μ' = .ok (f d) μ')
    (hlo : ∀ d ∈ ds, (f d).lo μ.length = true) (hc : ds.length ≤ cap) : eComp im g kill t e φ μ = .ok (.lst (ds.map f)) μ := by
  unfold eComp
  rw [hi, R.bind_ok, compL_map (f := f) ds [] h (by simpa using hc), List.nil_append]
  exact compEnd_ok (los_of fun x hx => by obtain ⟨d, hd, rfl⟩ := List.mem_map.mp hx; exact hlo d hd)
theorem compL_er {α : Type} {k : α → D} {g : GM} {kill : List Nat} {t : TM} {e : EM} {φ : Fr} {μ : Sto} {f : α → D} {c : Str} (P : α → Bool) : ∀ (ds : List α) (acc : List D), (∀ d ∈ ds, ∀ μ', ∃ φ', g (k d) (wipeF φ kill) μ' = some φ' ∧ t φ' μ' = .ok true μ' ∧ e φ' μ' = if P d = true then .er c μ' else .ok (f d) μ') → acc.length + ds.length ≤ cap → ds.any P = true →
    ∃ xs, compL g kill t e φ μ.length (ds.map k) (μ ++ [.lst acc]) = .er c (μ ++ [.lst xs])
  | [], acc, _, _, h => by simp at h
  | d :: r, acc, h, hl, hp => by
    obtain ⟨φ', e1, e2, e3⟩ := h d (List.mem_cons_self ..) (μ ++ [.lst acc])
    rw [List.length_cons] at hl
    rw [List.map_cons]
    unfold compL
    rw [e1]
    dsimp only
    rw [e2, R.bind_ok, if_pos rfl, e3]
    cases q : P d with
    | true => exact ⟨acc, rfl⟩
    | false =>
      rw [if_neg Bool.false_ne_true, R.bind_ok, end_get]
      dsimp only
      rw [if_pos (by omega), end_set]
      rw [List.any_cons, q, Bool.false_or] at hp
      exact compL_er P r (acc ++ [f d]) (fun z hz => h z (List.mem_cons_of_mem _ hz)) (by rw [List.length_append, List.length_singleton]; omega) hp
theorem eCompX_if {α : Type} (k : α → D) {im : IM} {g : GM} {kill : List Nat} {t : TM} {e : EM} {φ : Fr} {μ : Sto} {ds : List α} (f : α → D) {c : Str} (P : α → Bool) (hi : im φ μ = .ok (ds.map k) μ)
    (h : ∀ d ∈ ds, ∀ μ', ∃ φ', g (k d) (wipeF φ kill) μ' = some φ' ∧ t φ' μ' = .ok true μ' ∧ e φ' μ' = if P d = true then .er c μ' else .ok (f d) μ')
    (hlo : ∀ d ∈ ds, (f d).lo μ.length = true) (hc : ds.length ≤ cap) : eCompX im g kill t e φ μ = if ds.any P = true then .er c μ else .ok (.lst (ds.map f)) μ := by
  unfold eCompX
  rw [hi, R.bind_ok]
  cases q : ds.any P with
  | true =>
    obtain ⟨xs, e1⟩ := compL_er (f := f) P ds [] h (by simpa using hc) q
    rw [e1, if_pos rfl]
    unfold compEndX
    dsimp only
    rw [if_pos (by simp)]
  | false =>
    rw [compL_map (f := f) ds [] (fun d hd μ' => by
      obtain ⟨φ', e1, e2, e3⟩ := h d hd μ'
      have e4 : P d = false := by
        cases z : P d with
        | false => rfl
        | true => rw [List.any_eq_false] at q; exact absurd z (by simpa using q d hd)
      rw [e4, if_neg Bool.false_ne_true] at e3
      exact ⟨φ', e1, e2, e3⟩) (by simpa using hc), List.nil_append]
    exact compEnd_ok (los_of fun x hx => by obtain ⟨d, hd, rfl⟩ := List.mem_map.mp hx; exact hlo d hd)
/-- ranges -/
theorem range_ok {as : AM} {φ : Fr} {μ : Sto} {n : Int} (h : as φ μ = .ok [.int n] μ) (h0 : 0 ≤ n) (h1 : n ≤ (cap : Int)) : iRange as φ μ = .ok (rangeD 0 n.toNat) μ := by
  unfold iRange
  rw [h, R.bind_ok]
  dsimp only
  rw [if_pos ⟨by omega, h1⟩]
theorem mem_range {n : Nat} {d : D} (h : d ∈ rangeD 0 n) : ∃ k, k < n ∧ d = .int (k : Nat) := by
  unfold rangeD at h
  obtain ⟨k, hk, rfl⟩ := List.mem_map.mp h
  exact ⟨k, List.mem_range.mp hk, by simp⟩
@[simp] theorem range_len (lo : Int) (n : Nat) : (rangeD lo n).length = n := by simp [rangeD]
theorem range_get {n i : Nat} {d : D} (h : (rangeD 0 n)[i]? = some d) : i < n ∧ d = .int (i : Nat) := by
  unfold rangeD at h
  rw [List.getElem?_map] at h
  obtain ⟨c, hc, hd⟩ := Option.map_eq_some_iff.mp h
  obtain ⟨hi, hc'⟩ := List.getElem?_eq_some_iff.mp hc
  rw [List.length_range] at hi
  rw [List.getElem_range] at hc'
  subst hc' hd
  exact ⟨hi, by simp⟩
end Mp

namespace G81
open Mp PySem
/-! ### the program, as functions over data -/
abbrev c_FIGURES : Str := "0123456789"
abbrev c_GREAT_grammars : Str := "ABCDEFGHIJKLMNOPQRSTUVWXYZ"
abbrev c_GREAT_texts : Str := "ABCDEFGHIJKLMNOPQRSTUVWXYZ"
abbrev c_SMALL : Str := "abcdefghijklmnopqrstuvwxyz"
abbrev c_LONGEST : Int := 8
abbrev c_MOST_FIGURES : Int := 60
-- _law_cell_at: 0=script, 1=k
noncomputable def b__law_cell_at : SM := (sSeq (sIf (tVal (eBin cLt (eVar 1) (eFn fLen (aCons (eVar 0) aNil))))
  (sRet (eBin fIx (eVar 0) (eVar 1)))
  sNext)
  (sRet (eC (.int 0))))
noncomputable def m__law_cell_at : FM := mDef 2 b__law_cell_at
-- _law_shown: 0=rules, 1=rows, 2=name, 3=parts, 4=cost, 5=row
noncomputable def b__law_shown : SM := (sSeq (sSet 1 (eNew aNil))
  (sSeq (sFor (iOf (eVar 0)) (gTup (gCons (gName 2) (gCons (gName 3) (gCons (gName 4) gNil)))) [2, 3, 4, 5]
  (sSeq (sSet 5 (eMeth "str" fJoin (eC (.str " ")) (aCons (eBin fAdd (eLst (aCons (eVar 2) (aCons (eC (.str "=")) aNil))) (eFn fList (aCons (eVar 3) aNil))) aNil)))
  (sSeq (sIf (tVal (eBin cGt (eVar 4) (eC (.int 0))))
  (sSet 5 (eBin fAdd (eBin fAdd (eVar 5) (eC (.str " : "))) (eFn fStr (aCons (eVar 4) aNil))))
  sNext)
  (sDrop (eMeth "list" fAppend (eVar 1) (aCons (eVar 5) aNil))))))
  (sSeq (sFz 1) (sRet (eMeth "str" fJoin (eC (.str "\n")) (aCons (eVar 1) aNil))))))
noncomputable def m__law_shown : FM := mDef 6 b__law_shown
-- _law_heads: 0=cells, 1=found, 2=cell, 3=name, 4=k
noncomputable def b__law_heads : SM := (sSeq (sSet 1 (eNew aNil))
  (sSeq (sFor (iOf (eVar 0)) (gName 2) [2, 3]
  (sSeq (sSet 2 (eBin fMod (eVar 2) (eBin fPow (eC (.int 10)) (eC (.int 40)))))
  (sSeq (sSet 3 (eMeth "str" fJoin (eC (.str "")) (aCons (eComp (iRange (aCons (eBin fAdd (eC (.int 1)) (eBin fMod (eBin fDiv (eVar 2) (eC (.int 9))) (eC (.int 8)))) aNil)) (gName 4) [4] tYes (eBin fIx (eC (.str "QXYZABMN")) (eBin fMod (eBin fAdd (eBin fDiv (eVar 2) (eBin fAdd (eVar 4) (eC (.int 1)))) (eBin fMul (eVar 4) (eVar 4))) (eC (.int 8))))) aNil)))
  (sSeq (sIf (tVal (eBin cEq (eBin fMod (eVar 2) (eC (.int 3))) (eC (.int 0))))
  (sSet 3 (eBin fAdd (eBin fAdd (eVar 3) (eC (.str "_"))) (eFn fStr (aCons (eBin fMod (eBin fDiv (eVar 2) (eC (.int 3))) (eBin fIx (eLst (aCons (eC (.int 10)) (aCons (eC (.int 10000)) aNil))) (eBin fMod (eBin fDiv (eVar 2) (eC (.int 70))) (eC (.int 2))))) aNil))))
  sNext)
  (sIf (tVal (eBin cNotIn (eVar 3) (eVar 1)))
  (sDrop (eMeth "list" fAppend (eVar 1) (aCons (eVar 3) aNil)))
  sNext)))))
  (sSeq (sFz 1) (sRet (eVar 1)))))
noncomputable def m__law_heads : FM := mDef 5 b__law_heads
-- _law_word: 0=number, 1=k
noncomputable def b__law_word : SM := (sRet (eMeth "str" fJoin (eC (.str "")) (aCons (eComp (iRange (aCons (eBin fAdd (eC (.int 1)) (eBin fMod (eBin fDiv (eVar 0) (eC (.int 5))) (eC (.int 8)))) aNil)) (gName 1) [1] tYes (eBin fIx (eC (.str "eatonihsr")) (eBin fMod (eBin fAdd (eBin fDiv (eVar 0) (eBin fAdd (eVar 1) (eC (.int 1)))) (eVar 1)) (eC (.int 9))))) aNil)))
noncomputable def m__law_word : FM := mDef 2 b__law_word
-- _law_rule: 0=cell, 1=k, 2=heads, 3=name, 4=parts, 5=j, 6=one
noncomputable def b__law_rule : SM := (sSeq (sSet 0 (eBin fMod (eVar 0) (eBin fPow (eC (.int 10)) (eC (.int 40)))))
  (sSeq (sSet 3 (eBin fIx (eVar 2) (eBin fMod (eBin fDiv (eVar 0) (eC (.int 7))) (eFn fLen (aCons (eVar 2) aNil)))))
  (sSeq (sIf (tVal (eBin cLt (eVar 1) (eFn fLen (aCons (eVar 2) aNil))))
  (sSet 3 (eBin fIx (eVar 2) (eVar 1)))
  sNext)
  (sSeq (sSet 4 (eNew aNil))
  (sSeq (sFor (iRange (aCons (eBin fMod (eVar 0) (eC (.int 4))) aNil)) (gName 5) [5, 6]
  (sSeq (sSet 6 (eBin fMod (eBin fDiv (eBin fAdd (eVar 0) (eBin fMul (eVar 5) (eC (.int 7919)))) (eBin fAdd (eC (.int 11)) (eVar 5))) (eBin fPow (eC (.int 10)) (eC (.int 20)))))
  (sDrop (eMeth "list" fAppend (eVar 4) (aCons (eBin fIx (eLst (aCons (eFn m__law_word (aCons (eBin fDiv (eVar 6) (eC (.int 2))) aNil)) (aCons (eBin fIx (eVar 2) (eBin fMod (eBin fDiv (eVar 6) (eC (.int 2))) (eFn fLen (aCons (eVar 2) aNil)))) aNil))) (eBin fMod (eVar 6) (eC (.int 2)))) aNil)))))
  (sSeq (sFz 4) (sRet (eTup (aCons (eVar 3) (aCons (eFn fTuple (aCons (eVar 4) aNil)) (aCons (eBin fIx (eLst (aCons (eC (.int 0)) (aCons (eC (.int 0)) (aCons (eBin fMod (eBin fDiv (eVar 0) (eC (.int 50))) (eC (.int 12))) (aCons (eBin fMod (eBin fMul (eBin fAdd (eVar 0) (eC (.int 1))) (eBin fAdd (eVar 0) (eC (.int 3)))) (eBin fPow (eC (.int 10)) (eC (.int 60)))) aNil))))) (eBin fMod (eBin fDiv (eVar 0) (eC (.int 5))) (eC (.int 4)))) aNil)))))))))))
noncomputable def m__law_rule : FM := mDef 7 b__law_rule
-- _law_rules: 0=script, 1=heads, 2=rules, 3=k
noncomputable def b__law_rules : SM := (sSeq (sSet 1 (eFn m__law_heads (aCons (eBin fAdd (eSl (eVar 0) (oSome (eC (.int 1))) (oSome (eC (.int 4)))) (eLst (aCons (eFn m__law_cell_at (aCons (eVar 0) (aCons (eC (.int 0)) aNil))) aNil))) aNil)))
  (sSeq (sSet 2 (eNew aNil))
  (sSeq (sFor (iRange (aCons (eBin fAdd (eFn fLen (aCons (eVar 1) aNil)) (eBin fMod (eBin fDiv (eFn m__law_cell_at (aCons (eVar 0) (aCons (eC (.int 0)) aNil))) (eC (.int 8))) (eC (.int 6)))) aNil)) (gName 3) [3]
  (sDrop (eMeth "list" fAppend (eVar 2) (aCons (eFn m__law_rule (aCons (eFn m__law_cell_at (aCons (eVar 0) (aCons (eBin fAdd (eC (.int 4)) (eVar 3)) aNil))) (aCons (eVar 3) (aCons (eVar 1) aNil)))) aNil))))
  (sSeq (sFz 2) (sRet (eVar 2))))))
noncomputable def m__law_rules : FM := mDef 4 b__law_rules
-- _law_odd: 0=cell, 1=some
noncomputable def b__law_odd : SM := (sSeq (sSet 1 (eLst (aCons (eC (.str "")) (aCons (eC (.str "S")) (aCons (eC (.str "S =a")) (aCons (eC (.str "S= a")) (aCons (eC (.str "= a")) (aCons (eC (.str "s = a")) (aCons (eC (.str "S = a :")) (aCons (eC (.str "S = a : 0")) (aCons (eC (.str "S = a : 07")) (aCons (eC (.str "S = a : x")) (aCons (eC (.str "S : 3")) aNil)))))))))))))
  (sSeq (sSet 1 (eBin fAdd (eVar 1) (eLst (aCons (eC (.str "S = : 4")) (aCons (eC (.str "S = a  b")) (aCons (eC (.str "S = a ")) (aCons (eC (.str " S = a")) (aCons (eC (.str "S = a : 3 b")) (aCons (eC (.str "S = a1")) (aCons (eC (.str "S = Aa")) (aCons (eC (.str "S = a = b")) aNil)))))))))))
  (sSeq (sSet 1 (eBin fAdd (eVar 1) (eLst (aCons (eC (.str "S = a : -1")) (aCons (eC (.str "S_ = a")) (aCons (eC (.str "S_12345 = a")) (aCons (eC (.str "_1 = a")) (aCons (eC (.str "S_1 = a")) (aCons (eC (.str "ABCDEFGHI = a")) aNil)))))))))
  (sSeq (sSet 1 (eBin fAdd (eVar 1) (eLst (aCons (eC (.str "S = abcdefghi")) (aCons (eC (.str "S_1a = a")) (aCons (eC (.str "S = a : : 3")) aNil))))))
  (sRet (eBin fIx (eVar 1) (eBin fMod (eVar 0) (eC (.int 28)))))))))
noncomputable def m__law_odd : FM := mDef 2 b__law_odd
-- _law_long: 0=cell, 1=figures
noncomputable def b__law_long : SM := (sSeq (sSet 1 (eBin fAdd (eC (.str "1")) (eBin fMulS (eC (.str "0")) (eBin fAdd (eC (.int 59)) (eBin fMod (eVar 0) (eC (.int 2)))))))
  (sRet (eBin fIx (eLst (aCons (eBin fAdd (eC (.str "S = a : ")) (eVar 1)) (aCons (eC (.str "S = NOWHERE")) (aCons (eC (.str "S = b NOWHERE_9 : 5")) (aCons (eC (.str "NOWHERE = NOWHERE")) aNil))))) (eBin fMod (eBin fDiv (eVar 0) (eC (.int 2))) (eC (.int 4))))))
noncomputable def m__law_long : FM := mDef 2 b__law_long
-- _law_text: 0=script, 1=rows, 2=way, 3=cell, 4=place, 5=at, 6=text, 7=sign
noncomputable def b__law_text : SM := (sSeq (sSet 1 (eMeth "str" fSplit (eFn m__law_shown (aCons (eFn m__law_rules (aCons (eVar 0) aNil)) aNil)) (aCons (eC (.str "\n")) aNil)))
  (sSeq (sSet 2 (eBin fMod (eBin fDiv (eFn m__law_cell_at (aCons (eVar 0) (aCons (eC (.int 0)) aNil))) (eC (.int 48))) (eC (.int 8))))
  (sSeq (sSet 3 (eFn m__law_cell_at (aCons (eVar 0) (aCons (eC (.int 12)) aNil))))
  (sSeq (sSet 4 (eFn m__law_cell_at (aCons (eVar 0) (aCons (eC (.int 13)) aNil))))
  (sSeq (sIf (tVal (eBin cLt (eVar 2) (eC (.int 2))))
  (sSeq (sSet 5 (eBin fMod (eVar 4) (eBin fAdd (eFn fLen (aCons (eVar 1) aNil)) (eC (.int 1)))))
  (sSet 1 (eBin fAdd (eBin fAdd (eSl (eVar 1) oNone (oSome (eVar 5))) (eLst (aCons (eCallV (tabL [("_law_odd", m__law_odd), ("_law_long", m__law_long)]) (eBin fIx (eLst (aCons (eC (.fn "_law_odd")) (aCons (eC (.fn "_law_long")) aNil))) (eVar 2)) (aCons (eVar 3) aNil)) aNil))) (eSl (eVar 1) (oSome (eVar 5)) oNone))))
  sNext)
  (sSeq (sSet 6 (eMeth "str" fJoin (eC (.str "\n")) (aCons (eVar 1) aNil)))
  (sSeq (sSet 7 (eBin fIx (eC (.str "abSXQ_019:= \n\t.-+(){")) (eBin fMod (eBin fDiv (eVar 3) (eC (.int 30))) (eC (.int 20)))))
  (sSeq (sSet 5 (eBin fMod (eVar 4) (eBin fAdd (eFn fLen (aCons (eVar 6) aNil)) (eC (.int 1)))))
  (sSeq (sIf (tOr (tVal (eBin cEq (eVar 2) (eC (.int 2)))) (tVal (eBin cEq (eVar 2) (eC (.int 3)))))
  (sRet (eBin fAdd (eBin fAdd (eSl (eVar 6) oNone (oSome (eVar 5))) (eVar 7)) (eSl (eVar 6) (oSome (eVar 5)) oNone)))
  sNext)
  (sSeq (sIf (tVal (eBin cEq (eVar 2) (eC (.int 4))))
  (sRet (eBin fAdd (eSl (eVar 6) oNone (oSome (eVar 5))) (eSl (eVar 6) (oSome (eBin fAdd (eVar 5) (eC (.int 1)))) oNone)))
  sNext)
  (sSeq (sIf (tVal (eBin cEq (eVar 2) (eC (.int 5))))
  (sRet (eBin fAdd (eBin fAdd (eSl (eVar 6) oNone (oSome (eVar 5))) (eVar 7)) (eSl (eVar 6) (oSome (eBin fAdd (eVar 5) (eC (.int 1)))) oNone)))
  sNext)
  (sRet (eVar 6)))))))))))))
noncomputable def m__law_text : FM := mDef 8 b__law_text
-- _law_of: 0=text, 1=some, 2=most, 3=sign
noncomputable def b__law_of : SM := (sRet (eAnd (eChain cLt cLe (eC (.int 0)) (eFn fLen (aCons (eVar 0) aNil)) (eVar 2)) (eFn fAll (aCons (eComp (iOf (eVar 0)) (gName 3) [3] tYes (eBin cIn (eVar 3) (eVar 1))) aNil))))
noncomputable def m__law_of : FM := mDef 4 b__law_of
-- _law_is_head: 0=word, 1=letters, 2=stroke, 3=figures, 4=good
noncomputable def b__law_is_head : SM := (sSeq (sAsg (gTup (gCons (gName 1) (gCons (gName 2) (gCons (gName 3) gNil)))) (eMeth "str" fPartition (eVar 0) (aCons (eC (.str "_")) aNil)))
  (sSeq (sSet 4 (eFn m__law_of (aCons (eVar 1) (aCons (eC (.str "ABCDEFGHIJKLMNOPQRSTUVWXYZ")) (aCons (eC (.int 8)) aNil)))))
  (sRet (eAnd (eVar 4) (eOr (eBin cEq (eVar 2) (eC (.str ""))) (eFn m__law_of (aCons (eVar 3) (aCons (eC (.str "0123456789")) (aCons (eC (.int 4)) aNil)))))))))
noncomputable def m__law_is_head : FM := mDef 5 b__law_is_head
-- _law_row: 0=row, 1=words, 2=word
noncomputable def b__law_row : SM := (sSeq (sSet 1 (eMeth "str" fSplit (eVar 0) (aCons (eC (.str " ")) aNil)))
  (sSeq (sIf (tAnd (tVal (eBin cGt (eFn fLen (aCons (eVar 1) aNil)) (eC (.int 3)))) (tVal (eBin cEq (eBin fIx (eVar 1) (eUn fNeg (eC (.int 2)))) (eC (.str ":")))))
  (sSeq (sIf (tOr (tNot (tVal (eFn m__law_of (aCons (eBin fIx (eVar 1) (eUn fNeg (eC (.int 1)))) (aCons (eC (.str "0123456789")) (aCons (eC (.int 60)) aNil)))))) (tVal (eBin cEq (eBin fIx (eBin fIx (eVar 1) (eUn fNeg (eC (.int 1)))) (eC (.int 0))) (eC (.str "0")))))
  (sRet (eC .non))
  sNext)
  (sSet 1 (eSl (eVar 1) oNone (oSome (eUn fNeg (eC (.int 2)))))))
  sNext)
  (sSeq (sIf (tOr (tVal (eBin cLt (eFn fLen (aCons (eVar 1) aNil)) (eC (.int 2)))) (tOr (tVal (eBin cNe (eBin fIx (eVar 1) (eC (.int 1))) (eC (.str "=")))) (tNot (tVal (eFn m__law_is_head (aCons (eBin fIx (eVar 1) (eC (.int 0))) aNil))))))
  (sRet (eC .non))
  sNext)
  (sSeq (sFor (iOf (eSl (eVar 1) (oSome (eC (.int 2))) oNone)) (gName 2) [2]
  (sIf (tAnd (tNot (tVal (eFn m__law_of (aCons (eVar 2) (aCons (eC (.str "abcdefghijklmnopqrstuvwxyz")) (aCons (eC (.int 8)) aNil)))))) (tNot (tVal (eFn m__law_is_head (aCons (eVar 2) aNil)))))
  (sRet (eC .non))
  sNext))
  (sRet (eVar 1))))))
noncomputable def m__law_row : FM := mDef 3 b__law_row
-- _law_due: 0=text, 1=rows, 2=heads, 3=words, 4=word, 5=row
noncomputable def b__law_due : SM := (sSeq (sSet 1 (eComp (iOf (eMeth "str" fSplit (eVar 0) (aCons (eC (.str "\n")) aNil))) (gName 5) [5] tYes (eFn m__law_row (aCons (eVar 5) aNil))))
  (sSeq (sIf (tVal (eBin cIn (eC .non) (eVar 1)))
  (sRet (eC (.str "text")))
  sNext)
  (sSeq (sSet 2 (eComp (iOf (eVar 1)) (gName 3) [3] tYes (eBin fIx (eVar 3) (eC (.int 0)))))
  (sSeq (sFor (iOf (eVar 1)) (gName 3) [3, 4]
  (sFor (iOf (eSl (eVar 3) (oSome (eC (.int 2))) oNone)) (gName 4) [4]
  (sIf (tAnd (tVal (eFn m__law_is_head (aCons (eVar 4) aNil))) (tVal (eBin cNotIn (eVar 4) (eVar 2))))
  (sRet (eC (.str "grammar")))
  sNext)))
  (sRet (eC (.str "good")))))))
noncomputable def m__law_due : FM := mDef 6 b__law_due
-- names: 0=grammar, 1=found, 2=name, 3=parts, 4=cost
noncomputable def b_names : SM := (sSeq (sSet 1 (eNew aNil))
  (sSeq (sFor (iOf (eVar 0)) (gTup (gCons (gName 2) (gCons (gName 3) (gCons (gName 4) gNil)))) [2, 3, 4]
  (sIf (tVal (eBin cNotIn (eVar 2) (eVar 1)))
  (sDrop (eMeth "list" fAppend (eVar 1) (aCons (eVar 2) aNil)))
  sNext))
  (sSeq (sFz 1) (sRet (eVar 1)))))
noncomputable def m_names : FM := mDef 5 b_names
-- is_name: 0=part
noncomputable def b_is_name : SM := (sRet (eAnd (eBin cNe (eVar 0) (eC (.str ""))) (eBin cIn (eBin fIx (eVar 0) (eC (.int 0))) (eC (.str c_GREAT_grammars)))))
noncomputable def m_is_name : FM := mDef 1 b_is_name
-- grammar_of: 0=rules, 1=known, 2=name, 3=parts, 4=cost, 5=part
noncomputable def b_grammar_of : SM := (sSeq (sIf (tVal (eBin cEq (eVar 0) (eLst aNil)))
  (sRaise "NoGrammar")
  sNext)
  (sSeq (sSet 1 (eFn m_names (aCons (eVar 0) aNil)))
  (sSeq (sFor (iOf (eVar 0)) (gTup (gCons (gName 2) (gCons (gName 3) (gCons (gName 4) gNil)))) [2, 3, 4, 5]
  (sSeq (sIf (tVal (eBin cLt (eVar 4) (eC (.int 0))))
  (sRaise "NoGrammar")
  sNext)
  (sFor (iOf (eVar 3)) (gName 5) [5]
  (sIf (tAnd (tVal (eFn m_is_name (aCons (eVar 5) aNil))) (tVal (eBin cNotIn (eVar 5) (eVar 1))))
  (sRaise "NoGrammar")
  sNext))))
  (sRet (eComp (iOf (eVar 0)) (gTup (gCons (gName 2) (gCons (gName 3) (gCons (gName 4) gNil)))) [2, 3, 4] tYes (eTup (aCons (eVar 2) (aCons (eFn fTuple (aCons (eVar 3) aNil)) (aCons (eVar 4) aNil)))))))))
noncomputable def m_grammar_of : FM := mDef 6 b_grammar_of
-- cost_of: 0=text, 1=sign
noncomputable def b_cost_of : SM := (sSeq (sIf (tOr (tVal (eBin cEq (eVar 0) (eC (.str "")))) (tOr (tVal (eBin cGt (eFn fLen (aCons (eVar 0) aNil)) (eC (.int c_MOST_FIGURES)))) (tVal (eBin cEq (eBin fIx (eVar 0) (eC (.int 0))) (eC (.str "0"))))))
  (sRaise "NoText")
  sNext)
  (sSeq (sFor (iOf (eVar 0)) (gName 1) [1]
  (sIf (tVal (eBin cNotIn (eVar 1) (eC (.str c_FIGURES))))
  (sRaise "NoText")
  sNext))
  (sRet (eFn fIntS (aCons (eVar 0) aNil)))))
noncomputable def m_cost_of : FM := mDef 2 b_cost_of
-- made_of: 0=text, 1=signs, 2=sign
noncomputable def b_made_of : SM := (sSeq (sIf (tOr (tVal (eBin cEq (eVar 0) (eC (.str "")))) (tVal (eBin cGt (eFn fLen (aCons (eVar 0) aNil)) (eC (.int c_LONGEST)))))
  (sRet (eC (.bl false)))
  sNext)
  (sRet (eFn fAll (aCons (eComp (iOf (eVar 0)) (gName 2) [2] tYes (eBin cIn (eVar 2) (eVar 1))) aNil))))
noncomputable def m_made_of : FM := mDef 3 b_made_of
-- is_name_text: 0=text, 1=letters, 2=stroke, 3=figures
noncomputable def b_is_name_text : SM := (sSeq (sAsg (gTup (gCons (gName 1) (gCons (gName 2) (gCons (gName 3) gNil)))) (eMeth "str" fPartition (eVar 0) (aCons (eC (.str "_")) aNil)))
  (sSeq (sIf (tNot (tVal (eFn m_made_of (aCons (eVar 1) (aCons (eC (.str c_GREAT_texts)) aNil)))))
  (sRet (eC (.bl false)))
  sNext)
  (sSeq (sIf (tVal (eBin cEq (eVar 2) (eC (.str ""))))
  (sRet (eC (.bl true)))
  sNext)
  (sRet (eAnd (eFn m_made_of (aCons (eVar 3) (aCons (eC (.str c_FIGURES)) aNil))) (eBin cLe (eFn fLen (aCons (eVar 3) aNil)) (eC (.int 4))))))))
noncomputable def m_is_name_text : FM := mDef 4 b_is_name_text
-- read_rule: 0=text, 1=words, 2=cost, 3=word
noncomputable def b_read_rule : SM := (sSeq (sSet 1 (eMeth "str" fSplit (eVar 0) (aCons (eC (.str " ")) aNil)))
  (sSeq (sSet 2 (eC (.int 0)))
  (sSeq (sIf (tAnd (tVal (eBin cGt (eFn fLen (aCons (eVar 1) aNil)) (eC (.int 3)))) (tVal (eBin cEq (eBin fIx (eVar 1) (eUn fNeg (eC (.int 2)))) (eC (.str ":")))))
  (sSeq (sSet 2 (eFn m_cost_of (aCons (eBin fIx (eVar 1) (eUn fNeg (eC (.int 1)))) aNil)))
  (sSet 1 (eSl (eVar 1) oNone (oSome (eUn fNeg (eC (.int 2)))))))
  sNext)
  (sSeq (sIf (tOr (tVal (eBin cLt (eFn fLen (aCons (eVar 1) aNil)) (eC (.int 2)))) (tOr (tVal (eBin cNe (eBin fIx (eVar 1) (eC (.int 1))) (eC (.str "=")))) (tNot (tVal (eFn m_is_name_text (aCons (eBin fIx (eVar 1) (eC (.int 0))) aNil))))))
  (sRaise "NoText")
  sNext)
  (sSeq (sFor (iOf (eSl (eVar 1) (oSome (eC (.int 2))) oNone)) (gName 3) [3]
  (sIf (tAnd (tNot (tVal (eFn m_made_of (aCons (eVar 3) (aCons (eC (.str c_SMALL)) aNil))))) (tNot (tVal (eFn m_is_name_text (aCons (eVar 3) aNil)))))
  (sRaise "NoText")
  sNext))
  (sRet (eTup (aCons (eBin fIx (eVar 1) (eC (.int 0))) (aCons (eFn fTuple (aCons (eSl (eVar 1) (oSome (eC (.int 2))) oNone) aNil)) (aCons (eVar 2) aNil))))))))))
noncomputable def m_read_rule : FM := mDef 4 b_read_rule
-- read_grammar: 0=text, 1=row
noncomputable def b_read_grammar : SM := (sRet (eFn m_grammar_of (aCons (eCompX (iOf (eMeth "str" fSplit (eVar 0) (aCons (eC (.str "\n")) aNil))) (gName 1) [1] tYes (eFn m_read_rule (aCons (eVar 1) aNil))) aNil)))
noncomputable def m_read_grammar : FM := mDef 2 b_read_grammar
-- _law_kinds: 0=e, 1=kinds
noncomputable def b__law_kinds : SM := (sSeq (sSet 1 (eLst (aCons (eUn (fIsa (tabS [("NoneType", false)]) (tabL [("NoGrammar", false), ("NoText", true)])) (eVar 0)) (aCons (eUn (fIsa (tabS [("NoneType", false)]) (tabL [("NoGrammar", true), ("NoText", false)])) (eVar 0)) (aCons (eUn (fIsa (tabS [("NoneType", false)]) (tabL [("NoGrammar", false), ("NoText", false)])) (eVar 0)) (aCons (eUn (fIsa (tabS [("NoneType", false)]) (tabL [("NoGrammar", false), ("NoText", false)])) (eVar 0)) aNil))))))
  (sRet (eBin fAdd (eVar 1) (eLst (aCons (eUn (fIsa (tabS [("NoneType", false)]) (tabL [("NoGrammar", false), ("NoText", false)])) (eVar 0)) (aCons (eUn (fIsa (tabS [("NoneType", false)]) (tabL [("NoGrammar", false), ("NoText", false)])) (eVar 0)) aNil))))))
noncomputable def m__law_kinds : FM := mDef 2 b__law_kinds
-- shown_rule: 0=rule, 1=name, 2=parts, 3=cost, 4=words
noncomputable def b_shown_rule : SM := (sSeq (sAsg (gTup (gCons (gName 1) (gCons (gName 2) (gCons (gName 3) gNil)))) (eVar 0))
  (sSeq (sSet 4 (eBin fAdd (eLst (aCons (eVar 1) (aCons (eC (.str "=")) aNil))) (eFn fList (aCons (eVar 2) aNil))))
  (sSeq (sIf (tVal (eBin cGt (eVar 3) (eC (.int 0))))
  (sSet 4 (eBin fAdd (eVar 4) (eLst (aCons (eC (.str ":")) (aCons (eFn fStr (aCons (eVar 3) aNil)) aNil)))))
  sNext)
  (sRet (eMeth "str" fJoin (eC (.str " ")) (aCons (eVar 4) aNil))))))
noncomputable def m_shown_rule : FM := mDef 5 b_shown_rule
-- shown_grammar: 0=grammar, 1=rule
noncomputable def b_shown_grammar : SM := (sRet (eMeth "str" fJoin (eC (.str "\n")) (aCons (eComp (iOf (eVar 0)) (gName 1) [1] tYes (eFn m_shown_rule (aCons (eVar 1) aNil))) aNil)))
noncomputable def m_shown_grammar : FM := mDef 2 b_shown_grammar
-- law: 0=script, 1=text, 2=told, 3=caught, 4=e, 5=due
noncomputable def b_law : SM := (sSeq (sSet 1 (eFn m__law_text (aCons (eVar 0) aNil)))
  (sSeq (sSet 2 (eC .non))
  (sSeq (sSet 3 (eC .non))
  (sSeq (sTry (tabL [("NoGrammar", true), ("NoText", true)]) 4 3 (sSet 2 (eFn m_read_grammar (aCons (eVar 1) aNil))))
  (sSeq (sSet 5 (eFn m__law_due (aCons (eVar 1) aNil)))
  (sSeq (sIf (tVal (eBin cEq (eVar 5) (eC (.str "good"))))
  (sRet (eAnd (eBin cIsN (eVar 3) (eC .non)) (eAnd (eUn (fIsa (tabS [("NoneType", false), ("list", true), ("tuple", false), ("str", false), ("int", false)]) (tabL [])) (eVar 2)) (eBin cEq (eFn m_shown_grammar (aCons (eVar 2) aNil)) (eVar 1)))))
  sNext)
  (sSeq (sIf (tNot (tVal (eUn (fIsa (tabS [("NoneType", false)]) (tabL [("NoGrammar", true), ("NoText", true)])) (eVar 3))))
  (sRet (eC (.bl false)))
  sNext)
  (sRet (eBin cEq (eFn m__law_kinds (aCons (eVar 3) aNil)) (eLst (aCons (eBin cEq (eVar 5) (eC (.str "text"))) (aCons (eBin cEq (eVar 5) (eC (.str "grammar"))) (aCons (eC (.bl false)) (aCons (eC (.bl false)) (aCons (eC (.bl false)) (aCons (eC (.bl false)) aNil))))))))))))))))
noncomputable def m_law : FM := mDef 6 b_law
end G81

namespace G81
open Mp PySem L2
theorem blsOf_map : ∀ bs : List Bool, blsOf (bs.map D.bl) = some bs
  | [] => rfl
  | b :: r => by
    show (blsOf (r.map D.bl)).map _ = _
    rw [blsOf_map r]; rfl
theorem fAll_bls (bs : List Bool) (μ : Sto) : fAll [D.lst (bs.map D.bl)] μ = .ok (D.bl (bs.all id)) μ := by
  show (match (lstV μ (.lst (bs.map D.bl))).bind blsOf with | some bs => R.ok (D.bl (bs.all id)) μ | none => .no) = _
  rw [lstV_lst, Option.bind_some, blsOf_map]
theorem in_sign (c : Nat) (z : Str) (μ : Sto) : cIn (.str ⟨#[c]⟩) (.str z) μ = .ok (.bl (decide (c ∈ TL.tl z))) μ := rfl
theorem notin_sign (c : Nat) (z : Str) (μ : Sto) : cNotIn (.str ⟨#[c]⟩) (.str z) μ = .ok (.bl (!decide (c ∈ TL.tl z))) μ := rfl
def ofB (s z : Str) (m : Int) : Bool := decide (0 < s.length) && decide ((s.length : Int) ≤ m) && (TL.tl s).all fun c => decide (c ∈ TL.tl z)
theorem law_of_eq (s z : Str) (m : Int) (μ : Sto) (hs : s.length ≤ cap) : m__law_of [.str s, .str z, .int m] μ = .ok (.bl (ofB s z m)) μ := by
  refine mDef_rt0 ?_ rfl
  unfold b__law_of
  have hc : eComp (iOf (eVar 0)) (gName 3) [3] tYes (eBin cIn (eVar 3) (eVar 1)) [some (.str s), some (.str z), some (.int m), none] μ = .ok (.lst ((TL.tl s).map fun c => .bl (decide (c ∈ TL.tl z)))) μ :=
    eComp_map (fun c => D.str ⟨#[c]⟩) (fun c => D.bl (decide (c ∈ TL.tl z))) (by simp) (fun c _ μ' => ⟨_, rfl, rfl, by simp [in_sign]⟩) (fun _ _ => rfl) (by rw [← TL.len_tl]; exact hs)
  have ha : fAll [.lst ((TL.tl s).map fun c => .bl (decide (c ∈ TL.tl z)))] μ = .ok (.bl ((TL.tl s).all fun c => decide (c ∈ TL.tl z))) μ := by
    have q := fAll_bls ((TL.tl s).map fun c => decide (c ∈ TL.tl z)) μ
    rw [List.map_map] at q
    rw [show (fun c => D.bl (decide (c ∈ TL.tl z))) = D.bl ∘ (fun c => decide (c ∈ TL.tl z)) from rfl, q, List.all_map]
    rfl
  have ht : eChain cLt cLe (eC (.int 0)) (eFn fLen (aCons (eVar 0) aNil)) (eVar 2) [some (.str s), some (.str z), some (.int m), none] μ = .ok (.bl (decide (0 < s.length) && decide ((s.length : Int) ≤ m))) μ := by
    by_cases h1 : 0 < s.length
    · simp [hs, h1]
    · simp [hs, h1]
  show sRet _ [some (.str s), some (.str z), some (.int m), none] μ = _
  rw [sRet_ap, eAnd_bl ht, eFn_ap, aCons_ap, hc]
  simp only [R.bind_ok, aNil_ap, ha]
  unfold ofB
  cases (decide (0 < s.length) && decide ((s.length : Int) ≤ m)) <;> rfl

/-! ### equal, in, over texts and numbers -/
theorem eqD_str (a b : Str) : eqD (.str a) (.str b) = decide (a = b) := by
  unfold eqD
  simp only [toPy, PyData.eqv]
  cases h : decide (a = b) with
  | true => simpa using h
  | false => simpa using h
theorem eqD_int (a b : Int) : eqD (.int a) (.int b) = decide (a = b) := by
  unfold eqD
  simp only [toPy, PyData.eqv]
  cases h : decide (a = b) with
  | true => simpa using h
  | false => simpa using h
@[simp] theorem cEq_str (a b : Str) (μ : Sto) : cEq (.str a) (.str b) μ = .ok (.bl (decide (a = b))) μ := by
  show (match eqB (.str a) (.str b) μ with | some b => R.ok (D.bl b) μ | none => .no) = _
  unfold eqB
  rw [if_pos (show scalD (.str a) (.str b) = true from rfl), eqD_str]
@[simp] theorem cNe_str (a b : Str) (μ : Sto) : cNe (.str a) (.str b) μ = .ok (.bl (!decide (a = b))) μ := by
  show (match eqB (.str a) (.str b) μ with | some b => R.ok (D.bl !b) μ | none => .no) = _
  unfold eqB
  rw [if_pos (show scalD (.str a) (.str b) = true from rfl), eqD_str]
@[simp] theorem cEq_int (a b : Int) (μ : Sto) : cEq (.int a) (.int b) μ = .ok (.bl (decide (a = b))) μ := by
  show (match eqB (.int a) (.int b) μ with | some b => R.ok (D.bl b) μ | none => .no) = _
  unfold eqB
  rw [if_pos (show scalD (.int a) (.int b) = true from rfl), eqD_int]
theorem isIn_strs (x : Str) : ∀ xs : List Str, isIn (.str x) (xs.map .str) = decide (x ∈ xs)
  | [] => rfl
  | y :: r => by
    have ih := isIn_strs x r
    unfold isIn at ih ⊢
    rw [List.map_cons, List.any_cons, ih, eqD_str]
    by_cases h : y = x
    · simp [h]
    · have h' : ¬ x = y := fun z => h z.symm
      simp [h, h']
theorem flats_strs (xs : List Str) : (xs.map D.str).all flatD = true := by simp [List.all_map]; intros; rfl
theorem inB_strs (x : Str) (xs : List Str) (y : D) (μ : Sto) (hy : lstV μ y = some (xs.map D.str)) (hn : ∀ s, y ≠ .str s) (ht : ∀ s, y ≠ .tup s) : inB (.str x) y μ = some (decide (x ∈ xs)) := by
  have e : inB (.str x) y μ = (match lstV μ y with
    | some ys => if flatD (.str x) = true ∧ ys.all flatD = true then some (isIn (.str x) ys) else if (D.str x).fine 60 = true ∧ fines 60 ys = true then some (isIn (.str x) ys) else none
    | none => none) := by
    cases y <;> first | rfl | exact absurd rfl (hn _) | exact absurd rfl (ht _)
  rw [e, hy]
  dsimp only
  rw [if_pos ⟨rfl, flats_strs xs⟩, isIn_strs]
theorem notin_lst (x : Str) (xs : List Str) (μ : Sto) : cNotIn (.str x) (.lst (xs.map .str)) μ = .ok (.bl (!decide (x ∈ xs))) μ := by
  show (match inB (.str x) (.lst (xs.map .str)) μ with | some b => R.ok (D.bl !b) μ | none => .no) = _
  rw [inB_strs x xs _ μ rfl (fun _ h => by cases h) (fun _ h => by cases h)]
theorem notin_end (x : Str) (xs : List Str) (μ : Sto) : cNotIn (.str x) (.ref μ.length) (μ ++ [Ob.lst (xs.map D.str)]) = .ok (.bl (!decide (x ∈ xs))) (μ ++ [Ob.lst (xs.map D.str)]) := by
  show (match inB (.str x) (.ref μ.length) (μ ++ [Ob.lst (xs.map D.str)]) with | some b => R.ok (D.bl !b) _ | none => .no) = _
  rw [inB_strs x xs _ _ lstV_end (fun _ h => by cases h) (fun _ h => by cases h)]
/-! ### heads -/
def GREAT : Str := "ABCDEFGHIJKLMNOPQRSTUVWXYZ"
def SMALL : Str := "abcdefghijklmnopqrstuvwxyz"
def FIGS : Str := "0123456789"
def isHead (w : Str) : Bool := ofB (Txt.partition w "_").1 GREAT 8 && (decide ((Txt.partition w "_").2.1 = "") || ofB (Txt.partition w "_").2.2 FIGS 4)
theorem part_len (w : Str) : (Txt.partition w "_").1.length ≤ w.length ∧ (Txt.partition w "_").2.2.length ≤ w.length := ⟨(PyProof.Rows.fact_partition w "_").1, (PyProof.Rows.fact_partition w "_").2.2⟩
theorem law_is_head_eq (w : Str) (μ : Sto) (h : w.length ≤ cap) : m__law_is_head [.str w] μ = .ok (.bl (isHead w)) μ := by
  refine mDef_rt0 ?_ rfl
  obtain ⟨h1, h2⟩ := part_len w
  have e1 := law_of_eq (Txt.partition w "_").1 GREAT 8 μ (Nat.le_trans h1 h)
  have e2 := law_of_eq (Txt.partition w "_").2.2 FIGS 4 μ (Nat.le_trans h2 h)
  unfold GREAT at e1
  unfold FIGS at e2
  unfold b__law_is_head isHead GREAT FIGS
  have e0 : (("_" : Str).length == 0) = false := rfl
  simp [h, e0, e1, e2, eAnd_ap, eOr_ap]
  cases ofB (Txt.partition w "_").1 (Str.ofString "ABCDEFGHIJKLMNOPQRSTUVWXYZ") 8
  · rfl
  · by_cases q : (Txt.partition w "_").2.1 = ("" : Str)
    · simp [q]
    · simp [q, e2]
theorem made_of_eq (s z : Str) (μ : Sto) (hs : s.length ≤ cap) : m_made_of [.str s, .str z] μ = .ok (.bl (ofB s z 8)) μ := by
  refine mDef_rt0 ?_ rfl
  unfold b_made_of
  have hc : eComp (iOf (eVar 0)) (gName 2) [2] tYes (eBin cIn (eVar 2) (eVar 1)) [some (.str s), some (.str z), none] μ = .ok (.lst ((TL.tl s).map fun c => .bl (decide (c ∈ TL.tl z)))) μ :=
    eComp_map (fun c => D.str ⟨#[c]⟩) (fun c => D.bl (decide (c ∈ TL.tl z))) (by simp) (fun c _ μ' => ⟨_, rfl, rfl, by simp [in_sign]⟩) (fun _ _ => rfl) (by rw [← TL.len_tl]; exact hs)
  have ha : fAll [.lst ((TL.tl s).map fun c => .bl (decide (c ∈ TL.tl z)))] μ = .ok (.bl ((TL.tl s).all fun c => decide (c ∈ TL.tl z))) μ := by
    have q := fAll_bls ((TL.tl s).map fun c => decide (c ∈ TL.tl z)) μ
    rw [List.map_map] at q
    rw [show (fun c => D.bl (decide (c ∈ TL.tl z))) = D.bl ∘ (fun c => decide (c ∈ TL.tl z)) from rfl, q, List.all_map]
    rfl
  have ht : tOr (tVal (eBin cEq (eVar 0) (eC (.str "")))) (tVal (eBin cGt (eFn fLen (aCons (eVar 0) aNil)) (eC (.int c_LONGEST)))) [some (.str s), some (.str z), none] μ = .ok (!(decide (0 < s.length) && decide ((s.length : Int) ≤ 8))) μ := by
    by_cases h1 : s = ("" : Str)
    · subst h1
      rfl
    · have h0 : 0 < s.length := by
        rw [TL.len_tl]
        cases q : TL.tl s with
        | nil => exact absurd (TL.ext_tl (y := ("" : Str)) q) h1
        | cons a b => simp
      by_cases h8 : (s.length : Int) ≤ 8
      · have h9 : ¬ (8 : Int) < s.length := by omega
        simp [h1, hs, h0, c_LONGEST, h8, h9]
      · have h9 : (8 : Int) < s.length := by omega
        simp [h1, hs, h0, c_LONGEST, h8, h9]
  show sSeq _ _ [some (.str s), some (.str z), none] μ = _
  rw [sSeq_ap, sIf_ap, ht, R.then_ok]
  unfold ofB
  cases (decide (0 < s.length) && decide ((s.length : Int) ≤ 8)) with
  | false => rfl
  | true =>
    simp only [Bool.not_true, Bool.false_eq_true, if_false, sNext_ap, SR.seq_nx, sRet_ap, eFn_ap, aCons_ap, aNil_ap, hc, R.bind_ok, ha, R.then_ok, Bool.true_and]
theorem ofB_48 (s z : Str) : (ofB s z 8 && decide ((s.length : Int) ≤ 4)) = ofB s z 4 := by
  unfold ofB
  by_cases h : (s.length : Int) ≤ 4
  · have h8 : (s.length : Int) ≤ 8 := by omega
    simp [h, h8]
  · simp [h]
theorem is_name_text_eq (w : Str) (μ : Sto) (h : w.length ≤ cap) : m_is_name_text [.str w] μ = .ok (.bl (isHead w)) μ := by
  refine mDef_rt0 ?_ rfl
  obtain ⟨h1, h2⟩ := part_len w
  have e1 := made_of_eq (Txt.partition w "_").1 GREAT μ (Nat.le_trans h1 h)
  have e2 := made_of_eq (Txt.partition w "_").2.2 FIGS μ (Nat.le_trans h2 h)
  unfold GREAT at e1
  unfold FIGS at e2
  have hl : (Txt.partition w "_").2.2.length ≤ cap := Nat.le_trans h2 h
  unfold b_is_name_text isHead
  rw [← ofB_48]
  unfold GREAT FIGS
  have e0 : (("_" : Str).length == 0) = false := rfl
  simp [h, e0, e1, e2, hl, eAnd_ap, eOr_ap, c_GREAT_texts, c_FIGURES]
  cases ofB (Txt.partition w "_").1 (Str.ofString "ABCDEFGHIJKLMNOPQRSTUVWXYZ") 8
  · rfl
  · by_cases q : (Txt.partition w "_").2.1 = ("" : Str)
    · simp [q]
    · simp [q, e2, eAnd_ap]
      cases ofB (Txt.partition w "_").2.2 (Str.ofString "0123456789") 8 <;> simp [hl]
end G81

namespace G81
open Mp PySem L2
theorem one_eq (c : Nat) (d : Nat) : decide ((⟨#[c]⟩ : Str) = ⟨#[d]⟩) = decide (c = d) := by
  by_cases h : c = d
  · subst h; simp
  · simp [h]
theorem ne_len {s : Str} (h : s ≠ ("" : Str)) : ∃ c r, TL.tl s = c :: r := by
  cases q : TL.tl s with
  | nil => exact absurd (TL.ext_tl (y := ("" : Str)) q) h
  | cons a b => exact ⟨a, b, rfl⟩
theorem ix0_str {s : Str} {c : Nat} {r : List Nat} {μ : Sto} (hs : s.length ≤ cap) (e : TL.tl s = c :: r) : fIx (.str s) (.int 0) μ = .ok (.str ⟨#[c]⟩) μ := by
  refine ix_str hs ?_
  rw [show s.cps.toList = c :: r from e]
  exact atI_nat (j := 0) rfl
/-! ### costs -/
def val (t : Str) : Int := ((NumText.digitsVal (TL.tl t) : Nat) : Int)
def costOk (t : Str) : Bool := ofB t FIGS 60 && !decide ((TL.tl t).head? = some 48)
theorem figs_mem {c : Nat} : c ∈ TL.tl FIGS ↔ 48 ≤ c ∧ c ≤ 57 := by
  show c ∈ [48, 49, 50, 51, 52, 53, 54, 55, 56, 57] ↔ _
  simp
  omega
theorem costOk_digits {t : Str} (h : costOk t = true) : NumText.AllDigits (TL.tl t) ∧ TL.tl t ≠ [] ∧ t.length ≤ 60 ∧ (TL.tl t).head? ≠ some 48 := by
  unfold costOk ofB at h
  simp only [Bool.and_eq_true, decide_eq_true_eq, List.all_eq_true, Bool.not_eq_true', decide_eq_false_iff_not] at h
  obtain ⟨⟨⟨h1, h2⟩, h3⟩, h4⟩ := h
  refine ⟨fun c hc => figs_mem.mp (h3 c hc), fun z => ?_, by omega, h4⟩
  rw [TL.len_tl, z] at h1
  exact absurd h1 (by simp)
open Classical in
theorem cost_of_eq (t : Str) (μ : Sto) (hs : t.length ≤ cap) : m_cost_of [.str t] μ = if costOk t = true then .ok (.int (val t)) μ else .er "NoText" μ := by
  have bad : ∀ {φ}, (tOr (tVal (eBin cEq (eVar 0) (eC (.str "")))) (tOr (tVal (eBin cGt (eFn fLen (aCons (eVar 0) aNil)) (eC (.int c_MOST_FIGURES)))) (tVal (eBin cEq (eBin fIx (eVar 0) (eC (.int 0))) (eC (.str "0")))))) [some (.str t), none] μ = .ok φ μ →
      m_cost_of [.str t] μ = if φ = true then .er "NoText" μ else if ((TL.tl t).any fun c => !decide (c ∈ TL.tl FIGS)) = true then .er "NoText" μ else if t.length ≤ 640 then (match orNo D.int μ (PySem.intText? t) with | .ok d μ' => fin μ d μ' | _ => .no) else .no := by
    intro φ h
    have hl := forL_er (k := fun c => D.str ⟨#[c]⟩) (g := gName 1) (kill := [1]) (φ := [some (.str t), none]) (μ := μ) (c := "NoText") (b := sIf (tVal (eBin cNotIn (eVar 1) (eC (.str c_FIGURES)))) (sRaise "NoText") sNext) (fun c => !decide (c ∈ TL.tl FIGS)) (ds := TL.tl t) fun c _ => by
      refine ⟨[some (.str t), some (.str ⟨#[c]⟩)], rfl, fun q => ⟨[some (.str t), some (.str ⟨#[c]⟩)], ?_⟩, fun q => ⟨[some (.str t), some (.str ⟨#[c]⟩)], ?_, rfl⟩⟩
      · rw [sIf_ap, tVal_ap, eBin_ap, eVar1, R.bind_ok, eC_ap, R.bind_ok, notin_sign]
        have q : (!decide (c ∈ TL.tl c_FIGURES)) = true := q
        rw [q]; rfl
      · rw [sIf_ap, tVal_ap, eBin_ap, eVar1, R.bind_ok, eC_ap, R.bind_ok, notin_sign]
        have q : (!decide (c ∈ TL.tl c_FIGURES)) = false := q
        rw [q]; rfl
    unfold m_cost_of mDef b_cost_of
    simp only [List.map_cons, List.map_nil, List.length_cons, List.length_nil, List.cons_append, List.nil_append]
    show (match sSeq _ _ [some (.str t), none] μ with | .nx _ μ' => fin μ .non μ' | .rt d μ' => fin μ d μ' | .er c _ μ' => if μ'.take μ.length = μ then .er c μ else .no | _ => .no : R D) = _
    rw [sSeq_ap, sIf_ap, h, R.then_ok]
    cases φ with
    | true => simp
    | false =>
      simp only [Bool.false_eq_true, if_false, sNext_ap, SR.seq_nx, sSeq_ap, sFor_ap, iOf_ap, eVar0, R.bind_ok, items_str, R.then_ok, wipeF_cons, wipeF_nil, List.set_cons_succ, List.set_cons_zero]
      cases q : (TL.tl t).any fun c => !decide (c ∈ TL.tl FIGS) with
      | true =>
        obtain ⟨φ1, e⟩ := hl.1 q
        have e : forL (gName 1) [1] (sIf (tVal (eBin cNotIn (eVar 1) (eC (.str c_FIGURES)))) (sRaise "NoText") sNext) (t.cps.toList.map fun c => D.str ⟨#[c]⟩) [some (.str t), none] μ = _ := e
        rw [e]
        simp
      | false =>
        have e : forL (gName 1) [1] (sIf (tVal (eBin cNotIn (eVar 1) (eC (.str c_FIGURES)))) (sRaise "NoText") sNext) (t.cps.toList.map fun c => D.str ⟨#[c]⟩) [some (.str t), none] μ = _ := hl.2 q
        rw [e]
        simp only [SR.seq_nx, sRet_ap, eFn_ap, aCons_ap, eVar0, R.bind_ok, aNil_ap, Bool.false_eq_true, if_false]
        show (match (if t.length ≤ 640 then orNo D.int μ (PySem.intText? t) else .no : R D).then _ _ with | .nx _ μ' => fin μ .non μ' | .rt d μ' => fin μ d μ' | .er c _ μ' => if μ'.take μ.length = μ then .er c μ else .no | _ => .no : R D) = _
        by_cases h6 : t.length ≤ 640
        · rw [if_pos h6, if_pos h6]
          cases PySem.intText? t <;> rfl
        · rw [if_neg h6, if_neg h6]
          rfl
  by_cases h1 : t = ("" : Str)
  · subst h1
    rw [bad (φ := true) rfl]
    rfl
  · obtain ⟨c, r, e⟩ := ne_len h1
    have e0 : fIx (.str t) (.int 0) μ = .ok (.str ⟨#[c]⟩) μ := ix0_str hs e
    by_cases h6 : t.length ≤ 60
    · have h7 : ¬ (60 : Int) < t.length := by omega
      have hx : cEq (.str ⟨#[c]⟩) (.str "0") μ = .ok (.bl (decide (c = 48))) μ := by
        rw [cEq_str]
        rw [show (("0" : Str)) = ⟨#[48]⟩ from rfl, one_eq]
      rw [bad (φ := decide (c = 48)) (by simp [h1, hs, c_MOST_FIGURES, h7, e0, hx])]
      have hh : ((TL.tl t).head? = some 48) = (c = 48) := by rw [e]; simp
      by_cases h8 : c = 48
      · have : costOk t = false := by unfold costOk; rw [decide_eq_true (show (TL.tl t).head? = some 48 by rw [hh]; exact h8)]; simp
        rw [this, decide_eq_true h8]; rfl
      · rw [decide_eq_false h8, if_neg Bool.false_ne_true]
        have h0 : 0 < t.length := by rw [TL.len_tl, e]; simp
        cases q : (TL.tl t).any fun c => !decide (c ∈ TL.tl FIGS) with
        | true =>
          have : costOk t = false := by
            unfold costOk ofB
            have : ((TL.tl t).all fun c => decide (c ∈ TL.tl FIGS)) = false := by
              rw [← Bool.not_eq_true, List.all_eq_true]
              intro z
              obtain ⟨d, hd, hq⟩ := List.any_eq_true.mp q
              rw [z d hd] at hq
              exact absurd hq (by decide)
            rw [this]; simp
          rw [this]; rfl
        | false =>
          have ha : ((TL.tl t).all fun c => decide (c ∈ TL.tl FIGS)) = true := by
            rw [List.all_eq_true]
            intro d hd
            have z := List.any_eq_false.mp q d hd
            simpa using z
          have hk : costOk t = true := by
            unfold costOk ofB
            rw [ha, decide_eq_true h0, decide_eq_true (show (t.length : Int) ≤ 60 by omega), decide_eq_false (show ¬ (TL.tl t).head? = some 48 by rw [hh]; exact h8)]
            rfl
          obtain ⟨d1, d2, d3, _⟩ := costOk_digits hk
          rw [hk, if_pos rfl, if_pos (show t.length ≤ 640 by omega), PySem.intText_digits (x := t) d1 d2 (by omega), if_neg Bool.false_ne_true]
          show fin μ (.int (val t)) μ = _
          have z := fin_ok (μ := μ) (r := []) (d := .int (val t)) rfl
          rwa [List.append_nil] at z
    · have h7 : (60 : Int) < t.length := by omega
      rw [bad (φ := true) (by simp [h1, hs, c_MOST_FIGURES, h7])]
      have : costOk t = false := by
        unfold costOk ofB
        rw [decide_eq_false (show ¬ (t.length : Int) ≤ 60 by omega)]; simp
      rw [this]; rfl
end G81

namespace G81
open Mp PySem L2
/-! ### rows -/
def goodW (w : Str) : Bool := ofB w SMALL 8 || isHead w
def bodyB : List Str → Bool
  | h :: e :: ps => decide (e = "=") && isHead h && ps.all goodW
  | _ => false
def costed (ws : List Str) : Bool := decide (3 < ws.length) && decide (ws.getD (ws.length - 2) "" = ":")
/-- the words that count, the cost's text -/
def parse (ws : List Str) : Option (List Str × Int) :=
  if costed ws = true then (if costOk (ws.getD (ws.length - 1) "") = true ∧ bodyB (ws.take (ws.length - 2)) = true then some (ws.take (ws.length - 2), val (ws.getD (ws.length - 1) "")) else none)
  else if bodyB ws = true then some (ws, 0) else none
theorem ix_end {ws : List Str} {k : Nat} {μ : Sto} (h : k < ws.length) : fIx (.lst (ws.map .str)) (.int (-((k : Int) + 1))) μ = .ok (.str (ws.getD (ws.length - 1 - k) "")) μ := by
  refine ix_lst ?_
  have hl : k < (ws.map D.str).length := by rw [List.length_map]; exact h
  rw [atI_neg rfl hl]
  simp only [List.getElem_map, List.length_map]
  rw [List.getD_eq_getElem?_getD, List.getElem?_eq_getElem (by omega)]
  rfl
theorem ix_at {ws : List Str} {k : Nat} {μ : Sto} (h : k < ws.length) : fIx (.lst (ws.map .str)) (.int (k : Int)) μ = .ok (.str (ws.getD k "")) μ := by
  refine ix_lst ?_
  have hl : k < (ws.map D.str).length := by rw [List.length_map]; exact h
  rw [atI_nn rfl hl]
  simp only [List.getElem_map]
  rw [List.getD_eq_getElem?_getD, List.getElem?_eq_getElem (by omega)]
  rfl
theorem sl_but2 {ws : List Str} {μ : Sto} (h : 2 ≤ ws.length) : fSl (.lst (ws.map .str)) none (some (-2)) μ = .ok (.lst ((ws.take (ws.length - 2)).map .str)) μ := by
  show (match lstV μ (.lst (ws.map .str)) with | some xs => R.ok (D.lst (cutD xs none (some (-2)))) μ | none => .no) = _
  rw [lstV_lst]
  dsimp only
  congr 2
  unfold cutD
  have e1 : HT.sIx (ws.map D.str).length 0 none = 0 := rfl
  have e2 : HT.sIx (ws.map D.str).length (ws.map D.str).length (some (-2)) = ws.length - 2 := by
    rw [List.length_map]
    show (if (-2 : Int) < 0 then ((-2 : Int) + (ws.length : Int)).toNat else min (-2 : Int).toNat ws.length) = _
    rw [if_pos (by omega)]
    omega
  rw [e1, e2, List.drop_zero, Nat.sub_zero, ← List.map_take]
theorem sl_from2 {ws : List Str} {μ : Sto} : fSl (.lst (ws.map .str)) (some 2) none μ = .ok (.lst ((ws.drop 2).map .str)) μ := by
  show (match lstV μ (.lst (ws.map .str)) with | some xs => R.ok (D.lst (cutD xs (some 2) none)) μ | none => .no) = _
  rw [lstV_lst]
  dsimp only
  congr 2
  unfold cutD
  have e1 : HT.sIx (ws.map D.str).length 0 (some 2) = min 2 ws.length := by rw [List.length_map]; exact HT.sIx_nat ws.length 0 2
  have e2 : HT.sIx (ws.map D.str).length (ws.map D.str).length none = ws.length := by rw [List.length_map]; rfl
  rw [e1, e2, ← List.map_drop, ← List.map_take]
  congr 1
  rw [List.take_of_length_le (by rw [List.length_drop]; omega)]
  by_cases h : 2 ≤ ws.length
  · rw [Nat.min_eq_left h]
  · rw [List.drop_eq_nil_of_le (by omega), List.drop_eq_nil_of_le (by omega)]
/-- the words all short -/
def shortW (ws : List Str) : Prop := ∀ w ∈ ws, w.length ≤ cap
theorem getD_short {ws : List Str} (h : shortW ws) (k : Nat) : (ws.getD k "").length ≤ cap := by
  rw [List.getD_eq_getElem?_getD]
  cases e : ws[k]? with
  | none => exact Nat.zero_le _
  | some w => exact h w (List.mem_of_getElem? e)
/-! the law's reading -/
abbrev tCost : TM := tAnd (tVal (eBin cGt (eFn fLen (aCons (eVar 1) aNil)) (eC (.int 3)))) (tVal (eBin cEq (eBin fIx (eVar 1) (eUn fNeg (eC (.int 2)))) (eC (.str ":"))))
theorem tCost_eq {ws : List Str} {φ : Fr} {μ : Sto} {d0 : Option D} : tCost (d0 :: some (.lst (ws.map .str)) :: φ) μ = .ok (costed ws) μ := by
  unfold costed
  by_cases h : 3 < ws.length
  · have hi : (3 : Int) < ws.length := by omega
    have e := ix_end (μ := μ) (ws := ws) (k := 1) (by omega)
    have e' : fIx (.lst (ws.map .str)) (.int (-2)) μ = .ok (.str (ws.getD (ws.length - 2) "")) μ := e
    simp only [tAnd_ap, tVal_ap, eBin_ap, eFn_ap, aCons_ap, eVar1, R.bind_ok, aNil_ap, fLen_lst, List.length_map, eC_ap, cmpI_int, eUn_ap, fNeg_int, e', cEq_str]
    rw [decide_eq_true hi, decide_eq_true h]
    rfl
  · have hi : ¬ (3 : Int) < ws.length := by omega
    simp only [tAnd_ap, tVal_ap, eBin_ap, eFn_ap, aCons_ap, eVar1, R.bind_ok, aNil_ap, fLen_lst, List.length_map, eC_ap, cmpI_int]
    rw [decide_eq_false hi, decide_eq_false h]
    rfl
abbrev tHead (m : FM) : TM := tOr (tVal (eBin cLt (eFn fLen (aCons (eVar 1) aNil)) (eC (.int 2)))) (tOr (tVal (eBin cNe (eBin fIx (eVar 1) (eC (.int 1))) (eC (.str "=")))) (tNot (tVal (eFn m (aCons (eBin fIx (eVar 1) (eC (.int 0))) aNil)))))
def headB : List Str → Bool
  | h :: e :: _ => decide (e = "=") && isHead h
  | _ => false
theorem tHead_eq {m : FM} {ws : List Str} {φ : Fr} {μ : Sto} {d0 : Option D} (hm : ∀ w : Str, w.length ≤ cap → m [.str w] μ = .ok (.bl (isHead w)) μ) (hs : shortW ws) : tHead m (d0 :: some (.lst (ws.map .str)) :: φ) μ = .ok (!headB ws) μ := by
  match ws, hs with
  | [], _ => rfl
  | [a], _ => rfl
  | h :: e :: r, hs =>
    have hl : ¬ (((h :: e :: r).length : Nat) : Int) < 2 := by simp only [List.length_cons]; omega
    have e1 : fIx (.lst ((h :: e :: r).map .str)) (.int 1) μ = .ok (.str e) μ := ix_at (k := 1) (by simp)
    have e0 : fIx (.lst ((h :: e :: r).map .str)) (.int 0) μ = .ok (.str h) μ := ix_at (k := 0) (by simp)
    simp only [tOr_ap, tNot_ap, tVal_ap, eBin_ap, eFn_ap, aCons_ap, eVar1, R.bind_ok, aNil_ap, fLen_lst, List.length_map, eC_ap, cmpI_int, e1, e0, cNe_str, hm h (hs h (List.mem_cons_self ..))]
    rw [decide_eq_false hl]
    rw [show headB (h :: e :: r) = (decide (e = ("=" : Str)) && isHead h) from rfl]
    cases decide (e = ("=" : Str)) <;> rfl
theorem body_split (ws : List Str) : bodyB ws = (headB ws && (ws.drop 2).all goodW) := by
  match ws with
  | [] => rfl
  | [a] => rfl
  | h :: e :: r => rfl
theorem law_loop {ws : List Str} {μ : Sto} {d0 d1 : Option D} (hs : shortW ws) :
    forL (gName 2) [2] (sIf (tAnd (tNot (tVal (eFn m__law_of (aCons (eVar 2) (aCons (eC (.str "abcdefghijklmnopqrstuvwxyz")) (aCons (eC (.int 8)) aNil)))))) (tNot (tVal (eFn m__law_is_head (aCons (eVar 2) aNil))))) (sRet (eC .non)) sNext) (ws.map .str) [d0, d1, none] μ =
      if ws.any (fun w => !goodW w) = true then .rt .non μ else .nx [d0, d1, none] μ := by
  refine forL_rt (fun w => !goodW w) fun w hw => ⟨[d0, d1, some (.str w)], rfl, fun q => ?_, fun q => ⟨[d0, d1, some (.str w)], ?_, rfl⟩⟩
  · have e1 := law_of_eq w SMALL 8 μ (hs w hw)
    have e2 := law_is_head_eq w μ (hs w hw)
    unfold SMALL at e1
    unfold goodW SMALL at q
    simp only [sIf_ap, tAnd_ap, tNot_ap, tVal_ap, eFn_ap, aCons_ap, eVar2, R.bind_ok, aNil_ap, eC_ap, e1, e2]
    revert q
    cases ofB w (Str.ofString "abcdefghijklmnopqrstuvwxyz") 8 <;> cases isHead w <;> intro q <;> first | rfl | cases q
  · have e1 := law_of_eq w SMALL 8 μ (hs w hw)
    have e2 := law_is_head_eq w μ (hs w hw)
    unfold SMALL at e1
    unfold goodW SMALL at q
    simp only [sIf_ap, tAnd_ap, tNot_ap, tVal_ap, eFn_ap, aCons_ap, eVar2, R.bind_ok, aNil_ap, eC_ap, e1, e2]
    revert q
    cases ofB w (Str.ofString "abcdefghijklmnopqrstuvwxyz") 8 <;> cases isHead w <;> intro q <;> first | rfl | cases q
theorem any_good (ws : List Str) : ws.any (fun w => !goodW w) = !ws.all goodW := by
  induction ws with
  | nil => rfl
  | cons a r ih => rw [List.any_cons, List.all_cons, ih, Bool.not_and]
theorem shortW_take {ws : List Str} (h : shortW ws) (k : Nat) : shortW (ws.take k) := fun w hw => h w (List.mem_of_mem_take hw)
theorem shortW_drop {ws : List Str} (h : shortW ws) (k : Nat) : shortW (ws.drop k) := fun w hw => h w (List.mem_of_mem_drop hw)
/-- the tail of the law's reading -/
theorem law_tail {ws : List Str} {μ : Sto} {d0 : Option D} (hs : shortW ws) :
    (sSeq (sIf (tHead m__law_is_head) (sRet (eC .non)) sNext) (sSeq (sFor (iOf (eSl (eVar 1) (oSome (eC (.int 2))) oNone)) (gName 2) [2] (sIf (tAnd (tNot (tVal (eFn m__law_of (aCons (eVar 2) (aCons (eC (.str "abcdefghijklmnopqrstuvwxyz")) (aCons (eC (.int 8)) aNil)))))) (tNot (tVal (eFn m__law_is_head (aCons (eVar 2) aNil))))) (sRet (eC .non)) sNext)) (sRet (eVar 1)))) [d0, some (.lst (ws.map .str)), none] μ =
      .rt (if bodyB ws = true then .lst (ws.map .str) else .non) μ := by
  rw [sSeq_ap, sIf_ap, tHead_eq (fun w hw => law_is_head_eq w μ hw) hs, R.then_ok, body_split]
  cases headB ws with
  | false => rfl
  | true =>
    simp only [Bool.not_true, Bool.false_eq_true, if_false, sNext_ap, SR.seq_nx, sSeq_ap, sFor_ap, iOf_ap, eSl_ap, eVar1, R.bind_ok, oSome_ap, eC_ap, oNone_ap, sl_from2, items_lst, R.then_ok, wipeF_cons, wipeF_nil, List.set_cons_succ, List.set_cons_zero, Bool.true_and]
    rw [law_loop (shortW_drop hs 2), any_good]
    cases (ws.drop 2).all goodW <;> rfl
theorem law_row_eq (r : Str) (μ : Sto) (hs : r.length + 2 ≤ cap) (hw : shortW (Txt.split r " ")) :
    m__law_row [.str r] μ = .ok (match parse (Txt.split r " ") with | some (ws, _) => .lst (ws.map .str) | none => .non) μ := by
  generalize hW : Txt.split r " " = ws at hw
  refine mDef_rt0 ?_ ?_
  · show b__law_row [some (.str r), none, none] μ = _
    unfold b__law_row
    have e0 : ((" " : Str).length == 0) = false := rfl
    rw [sSeq_ap, sSet_ap, eMeth_ap, eVar0, R.bind_ok, tyD_str, if_pos rfl, aCons_ap, eC_ap, R.bind_ok, aNil_ap, R.bind_ok, R.bind_ok, fSplit_str, if_pos ⟨e0, hs⟩, R.then_ok, SR.seq_nx, hW]
    show sSeq _ _ [some (.str r), some (.lst (ws.map .str)), none] μ = _
    rw [sSeq_ap, sIf_ap]
    rw [show (tAnd (tVal (eBin cGt (eFn fLen (aCons (eVar 1) aNil)) (eC (.int 3)))) (tVal (eBin cEq (eBin fIx (eVar 1) (eUn fNeg (eC (.int 2)))) (eC (.str ":"))))) = tCost from rfl, tCost_eq, R.then_ok]
    unfold parse
    cases hc : costed ws with
    | false =>
      rw [if_neg Bool.false_ne_true, sNext_ap, SR.seq_nx, if_neg Bool.false_ne_true]
      refine (law_tail hw).trans ?_
      cases bodyB ws <;> rfl
    | true =>
      have hl : 3 < ws.length := by
        unfold costed at hc
        simp only [Bool.and_eq_true, decide_eq_true_eq] at hc
        exact hc.1
      rw [if_pos rfl, if_pos rfl]
      generalize hC : ws.getD (ws.length - 1) "" = c
      have hcl : c.length ≤ cap := by rw [← hC]; exact getD_short hw _
      have ei : fIx (.lst (ws.map .str)) (.int (-1)) μ = .ok (.str c) μ := by
        have z := ix_end (μ := μ) (ws := ws) (k := 0) (by omega)
        rw [Nat.sub_zero, hC] at z
        exact z
      have eo := law_of_eq c FIGS 60 μ hcl
      unfold FIGS at eo
      have ht : (tOr (tNot (tVal (eFn m__law_of (aCons (eBin fIx (eVar 1) (eUn fNeg (eC (.int 1)))) (aCons (eC (.str "0123456789")) (aCons (eC (.int 60)) aNil)))))) (tVal (eBin cEq (eBin fIx (eBin fIx (eVar 1) (eUn fNeg (eC (.int 1)))) (eC (.int 0))) (eC (.str "0"))))) [some (.str r), some (.lst (ws.map .str)), none] μ = .ok (!costOk c) μ := by
        simp only [tOr_ap, tNot_ap, tVal_ap, eFn_ap, aCons_ap, eBin_ap, eVar1, R.bind_ok, aNil_ap, eC_ap, eUn_ap, fNeg_int, ei, eo]
        unfold costOk FIGS
        cases q : ofB c (Str.ofString "0123456789") 60 with
        | false => rfl
        | true =>
          have h0 : 0 < c.length := by
            unfold ofB at q
            simp only [Bool.and_eq_true, decide_eq_true_eq] at q
            exact q.1.1
          obtain ⟨d, rr, e⟩ : ∃ d rr, TL.tl c = d :: rr := by
            cases z : TL.tl c with
            | nil => rw [TL.len_tl, z] at h0; exact absurd h0 (by simp)
            | cons a b => exact ⟨a, b, rfl⟩
          rw [ix0_str hcl e, R.bind_ok, cEq_str, show (("0" : Str)) = ⟨#[48]⟩ from rfl, one_eq, e]
          simp
      rw [sSeq_ap, sIf_ap, ht, R.then_ok]
      cases hk : costOk c with
      | false => rfl
      | true =>
        simp only [Bool.not_true, Bool.false_eq_true, if_false, sNext_ap, SR.seq_nx, sSet_ap, eSl_ap, eVar1, R.bind_ok, oSome_ap, eUn_ap, eC_ap, fNeg_int, oNone_ap, sl_but2 (show 2 ≤ ws.length by omega), R.then_ok, List.set_cons_succ, List.set_cons_zero, true_and]
        refine (law_tail (shortW_take hw _)).trans ?_
        cases bodyB (ws.take (ws.length - 2)) <;> rfl
  · cases parse ws with
    | none => rfl
    | some p => exact los_strs _ _
end G81

namespace G81
open Mp PySem L2
/-! ### the package's reading of a row -/
noncomputable abbrev lpRule : SM := sIf (tAnd (tNot (tVal (eFn m_made_of (aCons (eVar 3) (aCons (eC (.str c_SMALL)) aNil))))) (tNot (tVal (eFn m_is_name_text (aCons (eVar 3) aNil))))) (sRaise "NoText") sNext
theorem rule_loop {ws : List Str} {μ : Sto} {d0 d1 d2 : Option D} (hs : shortW ws) :
    (ws.any (fun w => !goodW w) = true → ∃ φ1, forL (gName 3) [3] lpRule (ws.map .str) [d0, d1, d2, none] μ = .er "NoText" φ1 μ) ∧ (ws.any (fun w => !goodW w) = false → forL (gName 3) [3] lpRule (ws.map .str) [d0, d1, d2, none] μ = .nx [d0, d1, d2, none] μ) := by
  have key : ∀ w ∈ ws, lpRule [d0, d1, d2, some (.str w)] μ = if (!goodW w) = true then .er "NoText" [d0, d1, d2, some (.str w)] μ else .nx [d0, d1, d2, some (.str w)] μ := fun w hw => by
    have e1 := made_of_eq w SMALL μ (hs w hw)
    have e2 := is_name_text_eq w μ (hs w hw)
    unfold SMALL at e1
    unfold goodW SMALL
    simp only [sIf_ap, tAnd_ap, tNot_ap, tVal_ap, eFn_ap, aCons_ap, eVar3, R.bind_ok, aNil_ap, eC_ap, e1, e2, c_SMALL]
    cases ofB w (Str.ofString "abcdefghijklmnopqrstuvwxyz") 8 <;> cases isHead w <;> rfl
  refine forL_er (fun w => !goodW w) fun w hw => ⟨[d0, d1, d2, some (.str w)], rfl, fun q => ⟨[d0, d1, d2, some (.str w)], ?_⟩, fun q => ⟨[d0, d1, d2, some (.str w)], ?_, rfl⟩⟩
  · rw [key w hw, q, if_pos rfl]
  · rw [key w hw, q, if_neg Bool.false_ne_true]
theorem head_get {ws : List Str} (h : headB ws = true) : 2 ≤ ws.length := by
  match ws, h with
  | h :: e :: r, _ => simp
noncomputable abbrev tlRule : SM := (sSeq (sIf (tHead m_is_name_text) (sRaise "NoText") sNext) (sSeq (sFor (iOf (eSl (eVar 1) (oSome (eC (.int 2))) oNone)) (gName 3) [3] lpRule) (sRet (eTup (aCons (eBin fIx (eVar 1) (eC (.int 0))) (aCons (eFn fTuple (aCons (eSl (eVar 1) (oSome (eC (.int 2))) oNone) aNil)) (aCons (eVar 2) aNil)))))))
def ruleD (ws : List Str) (c : Int) : D := .tup [.str (ws.getD 0 ""), .tup ((ws.drop 2).map .str), .int c]
theorem rule_tail {ws : List Str} {μ : Sto} {d0 : Option D} {c : Int} (hs : shortW ws) :
    (bodyB ws = true → tlRule [d0, some (.lst (ws.map .str)), some (.int c), none] μ = .rt (ruleD ws c) μ) ∧ (bodyB ws = false → ∃ φ1, tlRule [d0, some (.lst (ws.map .str)), some (.int c), none] μ = .er "NoText" φ1 μ) := by
  have hd := tHead_eq (m := m_is_name_text) (d0 := d0) (φ := [some (.int c), none]) (μ := μ) (fun w hw => is_name_text_eq w μ hw) hs
  have step : tlRule [d0, some (.lst (ws.map .str)), some (.int c), none] μ = if (!headB ws) = true then .er "NoText" [d0, some (.lst (ws.map .str)), some (.int c), none] μ else
      (forL (gName 3) [3] lpRule ((ws.drop 2).map .str) [d0, some (.lst (ws.map .str)), some (.int c), none] μ).seq (sRet (eTup (aCons (eBin fIx (eVar 1) (eC (.int 0))) (aCons (eFn fTuple (aCons (eSl (eVar 1) (oSome (eC (.int 2))) oNone) aNil)) (aCons (eVar 2) aNil))))) := by
    unfold tlRule
    rw [sSeq_ap, sIf_ap, hd, R.then_ok]
    cases headB ws with
    | false => rfl
    | true =>
      simp only [Bool.not_true, Bool.false_eq_true, if_false, sNext_ap, SR.seq_nx, sSeq_ap, sFor_ap, iOf_ap, eSl_ap, eVar1, R.bind_ok, oSome_ap, eC_ap, oNone_ap, sl_from2, items_lst, R.then_ok, wipeF_cons, wipeF_nil, List.set_cons_succ, List.set_cons_zero]
  obtain ⟨l1, l2⟩ := rule_loop (ws := ws.drop 2) (μ := μ) (d0 := d0) (d1 := some (.lst (ws.map .str))) (d2 := some (.int c)) (shortW_drop hs 2)
  rw [body_split, step]
  cases q : headB ws with
  | false => exact ⟨fun h => (by cases h), fun _ => ⟨_, rfl⟩⟩
  | true =>
    have hl := head_get q
    rw [Bool.true_and, if_neg (by decide)]
    have ag := any_good (ws.drop 2)
    cases qa : (ws.drop 2).all goodW with
    | true =>
      rw [qa] at ag
      rw [l2 ag]
      refine ⟨fun _ => ?_, fun h => by cases h⟩
      have e0 : fIx (.lst (ws.map .str)) (.int 0) μ = .ok (.str (ws.getD 0 "")) μ := ix_at (k := 0) (by omega)
      simp only [SR.seq_nx, sRet_ap, eTup_ap, aCons_ap, eBin_ap, eVar1, R.bind_ok, eC_ap, e0, eFn_ap, eSl_ap, oSome_ap, oNone_ap, sl_from2, aNil_ap, fTuple_lst, eVar2, R.then_ok]
      rfl
    | false =>
      rw [qa] at ag
      obtain ⟨φ1, e⟩ := l1 ag
      rw [e]
      exact ⟨fun h => (by cases h), fun _ => ⟨φ1, rfl⟩⟩
theorem read_rule_eq (r : Str) (μ : Sto) (hs : r.length + 2 ≤ cap) (hw : shortW (Txt.split r " ")) :
    m_read_rule [.str r] μ = match parse (Txt.split r " ") with | some (ws, c) => .ok (ruleD ws c) μ | none => .er "NoText" μ := by
  generalize hW : Txt.split r " " = ws at hw
  have start : b_read_rule [some (.str r), none, none, none] μ = (sSeq (sIf tCost (sSeq (sSet 2 (eFn m_cost_of (aCons (eBin fIx (eVar 1) (eUn fNeg (eC (.int 1)))) aNil))) (sSet 1 (eSl (eVar 1) oNone (oSome (eUn fNeg (eC (.int 2))))))) sNext) tlRule) [some (.str r), some (.lst (ws.map .str)), some (.int 0), none] μ := by
    unfold b_read_rule
    have e0 : ((" " : Str).length == 0) = false := rfl
    rw [sSeq_ap, sSet_ap, eMeth_ap, eVar0, R.bind_ok, tyD_str, if_pos rfl, aCons_ap, eC_ap, R.bind_ok, aNil_ap, R.bind_ok, R.bind_ok, fSplit_str, if_pos ⟨e0, hs⟩, R.then_ok, SR.seq_nx, hW, sSeq_ap, sSet_ap, eC_ap, R.then_ok, SR.seq_nx]
    rfl
  have lo : ∀ (ws : List Str) (c : Int) (n : Nat), (ruleD ws c).lo n = true := fun ws c n => by
    unfold ruleD
    simp [← List.map_drop]
  have hm : ∀ {x : SR}, b_read_rule [some (.str r), none, none, none] μ = x → m_read_rule [.str r] μ = (match parse ws with | some (ws, c) => .ok (ruleD ws c) μ | none => .er "NoText" μ : R D) ∨ (match parse ws with | some (ws, c) => x ≠ .rt (ruleD ws c) μ | none => ∀ φ1, x ≠ .er "NoText" φ1 μ) := fun {x} h => by
    cases q : parse ws with
    | none =>
      by_cases hx : ∃ φ1, x = .er "NoText" φ1 μ
      · obtain ⟨φ1, rfl⟩ := hx
        exact .inl (mDef_er0 h)
      · exact .inr fun φ1 e => hx ⟨φ1, e⟩
    | some p =>
      by_cases hx : x = .rt (ruleD p.1 p.2) μ
      · subst hx
        exact .inl (mDef_rt0 h (lo _ _ _))
      · exact .inr hx
  refine (hm start).resolve_right ?_
  rw [sSeq_ap, sIf_ap, tCost_eq, R.then_ok]
  unfold parse
  cases hc : costed ws with
  | false =>
    simp only [Bool.false_eq_true, if_false, sNext_ap, SR.seq_nx]
    obtain ⟨t1, t2⟩ := rule_tail (ws := ws) (μ := μ) (d0 := some (.str r)) (c := 0) hw
    cases q : bodyB ws with
    | true => rw [if_pos rfl, t1 q]; exact fun h => h rfl
    | false =>
      obtain ⟨φ1, e⟩ := t2 q
      rw [if_neg Bool.false_ne_true, e]
      exact fun h => h φ1 rfl
  | true =>
    have hl : 3 < ws.length := by
      unfold costed at hc
      simp only [Bool.and_eq_true, decide_eq_true_eq] at hc
      exact hc.1
    rw [if_pos rfl, if_pos rfl]
    generalize hC : ws.getD (ws.length - 1) "" = c
    have hcl : c.length ≤ cap := by rw [← hC]; exact getD_short hw _
    have ei : fIx (.lst (ws.map .str)) (.int (-1)) μ = .ok (.str c) μ := by
      have z := ix_end (μ := μ) (ws := ws) (k := 0) (by omega)
      rw [Nat.sub_zero, hC] at z
      exact z
    have ec := cost_of_eq c μ hcl
    cases hk : costOk c with
    | false =>
      rw [hk, if_neg Bool.false_ne_true] at ec
      simp only [sSeq_ap, sSet_ap, eFn_ap, aCons_ap, eBin_ap, eVar1, R.bind_ok, eUn_ap, eC_ap, fNeg_int, ei, aNil_ap, ec, R.then_er, SR.seq_er, Bool.false_eq_true, false_and, if_false]
      exact fun h => h _ rfl
    | true =>
      rw [hk, if_pos rfl] at ec
      simp only [sSeq_ap, sSet_ap, eFn_ap, aCons_ap, eBin_ap, eVar1, R.bind_ok, eUn_ap, eC_ap, fNeg_int, ei, aNil_ap, ec, R.then_ok, SR.seq_nx, List.set_cons_succ, List.set_cons_zero, eSl_ap, oNone_ap, oSome_ap, sl_but2 (show 2 ≤ ws.length by omega), true_and]
      obtain ⟨t1, t2⟩ := rule_tail (ws := ws.take (ws.length - 2)) (μ := μ) (d0 := some (.str r)) (c := val c) (shortW_take hw _)
      cases q : bodyB (ws.take (ws.length - 2)) with
      | true =>
        rw [if_pos rfl]
        have t := t1 q
        simp only [tlRule, sSeq_ap] at t
        exact fun h => h t
      | false =>
        obtain ⟨φ1, e⟩ := t2 q
        rw [if_neg Bool.false_ne_true]
        simp only [tlRule, sSeq_ap] at e
        exact fun h => h φ1 e
end G81

namespace G81
open Mp PySem L2
/-! ### joined and split -/
theorem join_len (y : Str) : ∀ parts : List Str, parts ≠ [] → (Str.join y parts).length + y.length = (parts.map (·.length)).sum + parts.length * y.length
  | [], h => absurd rfl h
  | [x], _ => by
    show x.length + y.length = (x.length + 0) + 1 * y.length
    omega
  | x :: z :: r, _ => by
    have ih := join_len y (z :: r) (by simp)
    have e : (Str.join y (x :: z :: r)).length = x.length + y.length + (Str.join y (z :: r)).length := by
      show (x ++ y ++ Str.join y (z :: r)).length = _
      rw [Str.length_append, Str.length_append]
    rw [e]
    simp only [List.map_cons, List.sum_cons, List.length_cons] at ih ⊢
    have e2 : (r.length + 1 + 1) * y.length = (r.length + 1) * y.length + y.length := by rw [Nat.add_mul (r.length + 1) 1, Nat.one_mul]
    omega
theorem join_mem (y : Str) {c : Nat} : ∀ {parts : List Str} {p : Str}, p ∈ parts → c ∈ TL.tl p → c ∈ TL.tl (Str.join y parts)
  | [x], p, hp, hc => by
    rw [List.mem_singleton] at hp
    subst hp
    exact hc
  | x :: z :: r, p, hp, hc => by
    show c ∈ TL.tl (x ++ y ++ Str.join y (z :: r))
    rw [TL.tl_append, TL.tl_append]
    rcases List.mem_cons.mp hp with rfl | hp
    · exact List.mem_append_left _ (List.mem_append_left _ hc)
    · exact List.mem_append_right _ (join_mem y hp hc)
theorem mem_join (y : Str) {c : Nat} : ∀ {parts : List Str}, c ∈ TL.tl (Str.join y parts) → c ∈ TL.tl y ∨ ∃ p ∈ parts, c ∈ TL.tl p
  | [], h => by exact absurd h (by simp [Str.join, TL.tl, Str.empty])
  | [x], h => .inr ⟨x, List.mem_singleton.mpr rfl, h⟩
  | x :: z :: r, h => by
    have h : c ∈ TL.tl (x ++ y ++ Str.join y (z :: r)) := h
    rw [TL.tl_append, TL.tl_append] at h
    rcases List.mem_append.mp h with h | h
    · rcases List.mem_append.mp h with h | h
      · exact .inr ⟨x, List.mem_cons_self .., h⟩
      · exact .inl h
    · rcases mem_join y h with h | ⟨p, hp, h⟩
      · exact .inl h
      · exact .inr ⟨p, List.mem_cons_of_mem _ hp, h⟩
theorem split_ne (x y : Str) (hy : (y.length == 0) = false) : Txt.split x y ≠ [] := fun e => by
  have z := StrLaws.join_split x y
  unfold Txt.split at e
  split at e
  · cases e
  · split at e
    · cases e
    · rw [StrLaws.partsBetween_eq] at e
      obtain ⟨p, q, e2⟩ := StrLaws.partsFrom_ne x y.length 0 _
      exact absurd (e2.symm.trans e) (by simp)
theorem len_mem_sum : ∀ {l : List Str} {p : Str}, p ∈ l → p.length ≤ (l.map (·.length)).sum
  | x :: r, p, h => by
    rw [List.map_cons, List.sum_cons]
    rcases List.mem_cons.mp h with rfl | h
    · omega
    · have := len_mem_sum h
      omega
theorem len_le_sum_n (l : List Str) {k : Nat} (h : ∀ p ∈ l, p.length ≤ k) : (l.map (·.length)).sum ≤ l.length * k := by
  induction l with
  | nil => simp
  | cons x r ih =>
    rw [List.map_cons, List.sum_cons, List.length_cons, Nat.add_mul, Nat.one_mul]
    have := ih fun p hp => h p (List.mem_cons_of_mem _ hp)
    have := h x (List.mem_cons_self ..)
    omega
/-- the parts of a text, by a separator of one sign -/
theorem split_sum {x y : Str} (hy : y.length = 1) : ((Txt.split x y).map (·.length)).sum + (Txt.split x y).length = x.length + 1 := by
  have h := join_len y (Txt.split x y) (split_ne x y (by rw [hy]; rfl))
  rw [StrLaws.join_split, hy, Nat.mul_one] at h
  exact h.symm
theorem split_short {x y : Str} (hy : y.length = 1) {p : Str} (hp : p ∈ Txt.split x y) : p.length ≤ x.length := by
  have h := split_sum (x := x) hy
  have h1 := len_mem_sum hp
  have h2 : 1 ≤ (Txt.split x y).length := List.length_pos_of_mem hp
  omega
theorem split_mem {x y p : Str} {c : Nat} (hp : p ∈ Txt.split x y) (hc : c ∈ TL.tl p) : c ∈ TL.tl x := by
  have h := join_mem y hp hc
  rwa [StrLaws.join_split] at h
/-- texts of signs -/
def Sg (s : Str) : Prop := ∀ c ∈ TL.tl s, c < 128
theorem Sg.ok {s : Str} (h : Sg s) : PyData.strOk s = true := by
  unfold PyData.strOk
  rw [Array.all_eq_true']
  intro c hc
  have := h c (by unfold TL.tl; exact Array.mem_toList_iff.mpr hc)
  exact decide_eq_true (by omega)
theorem Sg.app {s t : Str} (h : Sg s) (h' : Sg t) : Sg (s ++ t) := fun c hc => by
  rw [TL.tl_append] at hc
  exact (List.mem_append.mp hc).elim (h c) (h' c)
theorem Sg.join {y : Str} {ps : List Str} (hy : Sg y) (h : ∀ p ∈ ps, Sg p) : Sg (Txt.join y ps) := fun c hc => by
  rw [TL.join_eq] at hc
  rcases mem_join y hc with hc | ⟨p, hp, hc⟩
  · exact hy c hc
  · exact h p hp c hc
theorem Sg.split {x y p : Str} (h : Sg x) (hp : p ∈ Txt.split x y) : Sg p := fun c hc => h c (split_mem hp hc)
end G81

namespace G81
open Mp PySem L2
/-! ### grammars -/
abbrev Rl := List Str × Int
def RD (r : Rl) : D := ruleD r.1 r.2
def nm (r : Rl) : Str := r.1.getD 0 ""
def ps (r : Rl) : List Str := r.1.drop 2
def isN (p : Str) : Bool := match TL.tl p with | [] => false | c :: _ => decide (c ∈ TL.tl GREAT)
theorem is_name_eq (p : Str) (μ : Sto) (hp : p.length ≤ cap) : m_is_name [.str p] μ = .ok (.bl (isN p)) μ := by
  refine mDef_rt0 ?_ rfl
  show b_is_name [some (.str p)] μ = _
  unfold b_is_name
  have h1 : eBin cNe (eVar 0) (eC (.str "")) [some (.str p)] μ = .ok (.bl (!decide (p = ""))) μ := by simp
  rw [sRet_ap, eAnd_bl h1]
  by_cases h : p = ("" : Str)
  · subst h
    rfl
  · obtain ⟨c, r, e⟩ := ne_len h
    have e0 := ix0_str (μ := μ) hp e
    unfold isN
    rw [e, decide_eq_false h]
    simp only [Bool.not_false, if_true, eBin_ap, eVar0, R.bind_ok, eC_ap, e0, in_sign, R.then_ok]
    rfl
theorem gtarget (r : Rl) (d0 d1 d5 : Option D) (μ : Sto) (φ : Fr) (hφ : φ = [d0, d1, none, none, none, d5]) : gTup (gCons (gName 2) (gCons (gName 3) (gCons (gName 4) gNil))) (RD r) φ μ = some [d0, d1, some (.str (nm r)), some (.tup ((ps r).map .str)), some (.int r.2), d5] := by
  subst hφ
  rfl
theorem gtarget5 (r : Rl) (d0 d1 : Option D) (μ : Sto) (φ : Fr) (hφ : φ = [d0, d1, none, none, none]) : gTup (gCons (gName 2) (gCons (gName 3) (gCons (gName 4) gNil))) (RD r) φ μ = some [d0, d1, some (.str (nm r)), some (.tup ((ps r).map .str)), some (.int r.2)] := by
  subst hφ
  rfl
theorem names_eq (rs : List Rl) (μ : Sto) (hl : rs.length ≤ cap) : ∃ ns : List Str, m_names [.lst (rs.map RD)] μ = .ok (.lst (ns.map .str)) μ ∧ ∀ x, x ∈ ns ↔ ∃ r ∈ rs, nm r = x := by
  obtain ⟨φ', μ', e, acc, rfl, rfl, _, ha⟩ := forL_ind (g := gTup (gCons (gName 2) (gCons (gName 3) (gCons (gName 4) gNil)))) (kill := [2, 3, 4]) (b := sIf (tVal (eBin cNotIn (eVar 2) (eVar 1))) (sDrop (eMeth "list" fAppend (eVar 1) (aCons (eVar 2) aNil))) sNext)
    (fun i φ μ' => ∃ acc : List Str, φ = [some (.lst (rs.map RD)), some (.ref μ.length), none, none, none] ∧ μ' = μ ++ [Ob.lst (acc.map D.str)] ∧ acc.length ≤ i ∧ ∀ x, x ∈ acc ↔ ∃ r ∈ rs.take i, nm r = x)
    (rs.map RD) 0 [some (.lst (rs.map RD)), some (.ref μ.length), none, none, none] (μ ++ [Ob.lst []]) ⟨[], rfl, rfl, Nat.le_refl _, fun x => by simp⟩ (by
      rintro i d φ μ' hi ⟨acc, rfl, rfl, hlen, ha⟩
      rw [Nat.zero_add] at hlen ha ⊢
      rw [List.getElem?_map] at hi
      obtain ⟨r, hr, rfl⟩ := Option.map_eq_some_iff.mp hi
      have hir : i < rs.length := (List.getElem?_eq_some_iff.mp hr).1
      have htk : rs.take (i + 1) = rs.take i ++ [r] := by rw [List.take_add_one, hr]; rfl
      refine ⟨_, [some (.lst (rs.map RD)), some (.ref μ.length), some (.str (nm r)), some (.tup ((ps r).map .str)), some (.int r.2)], μ ++ [Ob.lst ((if nm r ∈ acc then acc else acc ++ [nm r]).map D.str)], gtarget5 r _ _ _ _ rfl, ?_, if nm r ∈ acc then acc else acc ++ [nm r], rfl, rfl, ?_, ?_⟩
      · rw [sIf_ap, tVal_ap, eBin_ap, eVar2, R.bind_ok, eVar1, R.bind_ok, notin_end, R.bind_ok, R.then_ok]
        by_cases hm : nm r ∈ acc
        · rw [if_pos hm, decide_eq_true hm]
          rfl
        · rw [if_neg hm, decide_eq_false hm, if_pos (show (!false) = true from rfl), sDrop_ap, eMeth_ap, eVar1, R.bind_ok, tyD_end, if_pos rfl, aCons_ap, eVar2, R.bind_ok, aNil_ap, R.bind_ok, R.bind_ok, append_end (by rw [List.length_map]; omega), List.map_append]
          rfl
      · by_cases hm : nm r ∈ acc
        · rw [if_pos hm]; omega
        · rw [if_neg hm, List.length_append, List.length_singleton]; omega
      · intro x
        rw [htk]
        by_cases hm : nm r ∈ acc
        · rw [if_pos hm, ha]
          constructor
          · rintro ⟨q, hq, e⟩
            exact ⟨q, List.mem_append_left _ hq, e⟩
          · rintro ⟨q, hq, e⟩
            rcases List.mem_append.mp hq with hq | hq
            · exact ⟨q, hq, e⟩
            · rw [List.mem_singleton] at hq
              subst hq
              subst e
              exact (ha _).mp hm
        · rw [if_neg hm, List.mem_append, ha, List.mem_singleton]
          constructor
          · rintro (⟨q, hq, e⟩ | e)
            · exact ⟨q, List.mem_append_left _ hq, e⟩
            · exact ⟨r, List.mem_append_right _ (List.mem_singleton.mpr rfl), e.symm⟩
          · rintro ⟨q, hq, e⟩
            rcases List.mem_append.mp hq with hq | hq
            · exact .inl ⟨q, hq, e⟩
            · rw [List.mem_singleton] at hq
              subst hq
              exact .inr e.symm)
  rw [Nat.zero_add, List.length_map, List.take_length] at ha
  refine ⟨acc, ?_, ha⟩
  refine mDef_rt [.dead] ?_ (by simp)
  show b_names [some (.lst (rs.map RD)), none, none, none, none] μ = _
  unfold b_names
  simp only [sSeq_ap, sSet_ap, eNew_ap, aNil_ap, R.bind_ok, R.then_ok, SR.seq_nx, List.set_cons_succ, List.set_cons_zero, sFor_ap, iOf_ap, eVar0, items_lst, wipeF_cons, wipeF_nil]
  rw [e, SR.seq_nx, sSeq_ap, sFz_end rfl, SR.seq_nx]
  simp only [List.set_cons_succ, List.set_cons_zero, sRet_ap, eVar1, R.then_ok]

/-! the whole grammar -/
def badR (rs : List Rl) (r : Rl) : Bool := (ps r).any fun p => isN p && !decide (∃ q ∈ rs, nm q = p)
theorem fine_rules (rs : List Rl) (hg : ∀ r ∈ rs, ∀ w ∈ r.1, PyData.strOk w = true) : (D.lst (rs.map RD)).fine 64 = true := by
  have sq : ∀ ws : List Str, (∀ w ∈ ws, PyData.strOk w = true) → cls (ws.map D.str) = true ∧ deps (ws.map D.str) = 0 := fun ws => by
    induction ws with
    | nil => exact fun _ => ⟨rfl, rfl⟩
    | cons a r ih =>
      intro h
      obtain ⟨h1, h2⟩ := ih fun w hw => h w (List.mem_cons_of_mem _ hw)
      have ha := h a (List.mem_cons_self ..)
      refine ⟨?_, ?_⟩
      · show (PyData.strOk a && cls (r.map D.str)) = true
        rw [ha, h1]; rfl
      · show max 0 (deps (r.map D.str)) = 0
        rw [h2]; rfl
  have one : ∀ r : Rl, (∀ w ∈ r.1, PyData.strOk w = true) → (RD r).cl = true ∧ (RD r).dep ≤ 2 := fun r h => by
    obtain ⟨h1, h2⟩ := sq (ps r) fun w hw => h w (List.mem_of_mem_drop hw)
    have hn : PyData.strOk (nm r) = true := by
      unfold nm
      rw [List.getD_eq_getElem?_getD]
      cases e : r.1[0]? with
      | none => exact (by decide +kernel : PyData.strOk ("" : Str) = true)
      | some w => exact h w (List.mem_of_getElem? e)
    refine ⟨?_, ?_⟩
    · show (PyData.strOk (nm r) && (cls ((ps r).map D.str) && (true && true))) = true
      rw [hn, h1]; rfl
    · show max 0 (max (deps ((ps r).map D.str) + 1) (max 0 0)) + 1 ≤ 2
      rw [h2]; decide
  have all : ∀ rs : List Rl, (∀ r ∈ rs, ∀ w ∈ r.1, PyData.strOk w = true) → cls (rs.map RD) = true ∧ deps (rs.map RD) ≤ 2 := fun rs => by
    induction rs with
    | nil => exact fun _ => ⟨rfl, by decide⟩
    | cons a r ih =>
      intro h
      obtain ⟨h1, h2⟩ := ih fun w hw => h w (List.mem_cons_of_mem _ hw)
      obtain ⟨h3, h4⟩ := one a (h a (List.mem_cons_self ..))
      refine ⟨?_, ?_⟩
      · show ((RD a).cl && cls (r.map RD)) = true
        rw [h3, h1]; rfl
      · show max (RD a).dep (deps (r.map RD)) ≤ 2
        omega
  obtain ⟨h1, h2⟩ := all rs hg
  show ((D.lst (rs.map RD)).cl && decide ((D.lst (rs.map RD)).dep ≤ 64)) = true
  rw [show (D.lst (rs.map RD)).cl = cls (rs.map RD) from rfl, h1, show (D.lst (rs.map RD)).dep = deps (rs.map RD) + 1 from rfl, decide_eq_true (by omega)]
  rfl
theorem rules_ne (rs : List Rl) (hg : ∀ r ∈ rs, ∀ w ∈ r.1, PyData.strOk w = true) (hne : rs ≠ []) (μ : Sto) : cEq (.lst (rs.map RD)) (.lst []) μ = .ok (.bl false) μ := by
  show (match eqB (.lst (rs.map RD)) (.lst []) μ with | some b => R.ok (D.bl b) μ | none => .no) = _
  unfold eqB
  rw [if_neg (show ¬ scalD (.lst (rs.map RD)) (.lst []) = true from fun h => by cases h), if_pos ⟨fine_rules rs hg, rfl⟩]
  show R.ok (D.bl (eqD (.lst (rs.map RD)) (.lst []))) μ = _
  match rs, hne with
  | a :: r, _ =>
    unfold eqD
    simp [toPy, toPys, PyData.eqv, PyData.eqvAll]
noncomputable abbrev lpGr : SM := (sIf (tAnd (tVal (eFn m_is_name (aCons (eVar 5) aNil))) (tVal (eBin cNotIn (eVar 5) (eVar 1)))) (sRaise "NoGrammar") sNext)
theorem gr_inner {ns ws : List Str} {μ : Sto} {d0 d2 d3 d4 : Option D} (hs : shortW ws) :
    (ws.any (fun p => isN p && !decide (p ∈ ns)) = true → ∃ φ1, forL (gName 5) [5] lpGr (ws.map .str) [d0, some (.lst (ns.map .str)), d2, d3, d4, none] μ = .er "NoGrammar" φ1 μ) ∧
    (ws.any (fun p => isN p && !decide (p ∈ ns)) = false → forL (gName 5) [5] lpGr (ws.map .str) [d0, some (.lst (ns.map .str)), d2, d3, d4, none] μ = .nx [d0, some (.lst (ns.map .str)), d2, d3, d4, none] μ) := by
  have key : ∀ w ∈ ws, lpGr [d0, some (.lst (ns.map .str)), d2, d3, d4, some (.str w)] μ = if (isN w && !decide (w ∈ ns)) = true then .er "NoGrammar" [d0, some (.lst (ns.map .str)), d2, d3, d4, some (.str w)] μ else .nx [d0, some (.lst (ns.map .str)), d2, d3, d4, some (.str w)] μ := fun w hw => by
    have e1 := is_name_eq w μ (hs w hw)
    simp only [sIf_ap, tAnd_ap, tVal_ap, eFn_ap, aCons_ap, eVar5, R.bind_ok, aNil_ap, e1, eBin_ap, eVar1, notin_lst]
    cases isN w <;> rfl
  refine forL_er (fun p => isN p && !decide (p ∈ ns)) fun w hw => ⟨[d0, some (.lst (ns.map .str)), d2, d3, d4, some (.str w)], rfl, fun q => ⟨[d0, some (.lst (ns.map .str)), d2, d3, d4, some (.str w)], ?_⟩, fun q => ⟨[d0, some (.lst (ns.map .str)), d2, d3, d4, some (.str w)], ?_, rfl⟩⟩
  · rw [key w hw, q, if_pos rfl]
  · rw [key w hw, q, if_neg Bool.false_ne_true]
theorem grammar_of_eq (rs : List Rl) (μ : Sto) (hl : rs.length ≤ cap) (hne : rs ≠ []) (hg : ∀ r ∈ rs, ∀ w ∈ r.1, PyData.strOk w = true ∧ w.length ≤ cap) (hc : ∀ r ∈ rs, 0 ≤ r.2) :
    m_grammar_of [.lst (rs.map RD)] μ = if rs.any (badR rs) = true then .er "NoGrammar" μ else .ok (.lst (rs.map RD)) μ := by
  obtain ⟨ns, e1, hns⟩ := names_eq rs μ hl
  have hps : ∀ r ∈ rs, shortW (ps r) := fun r hr w hw => (hg r hr w (List.mem_of_mem_drop hw)).2
  have hbad : ∀ r, badR rs r = (ps r).any fun p => isN p && !decide (p ∈ ns) := fun r => by
    unfold badR
    congr 1
    funext p
    rw [decide_eq_decide.mpr (hns p).symm]
  have loop := forL_er (k := RD) (g := gTup (gCons (gName 2) (gCons (gName 3) (gCons (gName 4) gNil)))) (kill := [2, 3, 4, 5]) (c := "NoGrammar") (φ := [some (.lst (rs.map RD)), some (.lst (ns.map .str)), none, none, none, none]) (μ := μ)
    (b := sSeq (sIf (tVal (eBin cLt (eVar 4) (eC (.int 0)))) (sRaise "NoGrammar") sNext) (sFor (iOf (eVar 3)) (gName 5) [5] lpGr)) (badR rs) (ds := rs) fun r hr => by
      obtain ⟨i1, i2⟩ := gr_inner (ns := ns) (ws := ps r) (μ := μ) (d0 := some (.lst (rs.map RD))) (d2 := some (.str (nm r))) (d3 := some (.tup ((ps r).map .str))) (d4 := some (.int r.2)) (hps r hr)
      have hc' : ¬ r.2 < 0 := by have := hc r hr; omega
      have step : (sSeq (sIf (tVal (eBin cLt (eVar 4) (eC (.int 0)))) (sRaise "NoGrammar") sNext) (sFor (iOf (eVar 3)) (gName 5) [5] lpGr)) [some (.lst (rs.map RD)), some (.lst (ns.map .str)), some (.str (nm r)), some (.tup ((ps r).map .str)), some (.int r.2), none] μ =
          forL (gName 5) [5] lpGr ((ps r).map .str) [some (.lst (rs.map RD)), some (.lst (ns.map .str)), some (.str (nm r)), some (.tup ((ps r).map .str)), some (.int r.2), none] μ := by
        simp only [sSeq_ap, sIf_ap, tVal_ap, eBin_ap, eVar4, R.bind_ok, eC_ap, cmpI_int, R.then_ok]
        rw [decide_eq_false hc']
        rfl
      refine ⟨_, gtarget r _ _ _ _ _ rfl, fun q => ?_, fun q => ⟨[some (.lst (rs.map RD)), some (.lst (ns.map .str)), some (.str (nm r)), some (.tup ((ps r).map .str)), some (.int r.2), none], ?_, ?_⟩⟩
      · rw [hbad] at q
        rw [step]
        exact i1 q
      · rw [hbad] at q
        rw [step]
        exact i2 q
      · rfl
  have start : ∀ {k : SM}, (sSeq (sIf (tVal (eBin cEq (eVar 0) (eLst aNil))) (sRaise "NoGrammar") sNext) (sSeq (sSet 1 (eFn m_names (aCons (eVar 0) aNil))) k)) [some (.lst (rs.map RD)), none, none, none, none, none] μ = k [some (.lst (rs.map RD)), some (.lst (ns.map .str)), none, none, none, none] μ := fun {k} => by
    have e0 := rules_ne rs (fun r hr w hw => (hg r hr w hw).1) hne μ
    simp only [sSeq_ap, sIf_ap, tVal_ap, eBin_ap, eVar0, R.bind_ok, eLst_ap, aNil_ap, e0, R.then_ok, Bool.false_eq_true, if_false, sNext_ap, SR.seq_nx, sSet_ap, eFn_ap, aCons_ap, e1, List.set_cons_succ, List.set_cons_zero]
  cases q : rs.any (badR rs) with
  | true =>
    obtain ⟨φ1, e⟩ := loop.1 q
    refine mDef_er0 (φ := φ1) ?_
    show b_grammar_of [some (.lst (rs.map RD)), none, none, none, none, none] μ = _
    unfold b_grammar_of
    rw [start, sSeq_ap, sFor_ap, iOf_ap, eVar0, R.bind_ok, items_lst]
    show (forL _ [2, 3, 4, 5] _ (rs.map RD) [some (.lst (rs.map RD)), some (.lst (ns.map .str)), none, none, none, none] μ).seq _ = _
    rw [e, SR.seq_er]
  | false =>
    have e := loop.2 q
    rw [if_neg Bool.false_ne_true]
    have lo : ∀ r : Rl, ∀ n, (RD r).lo n = true := fun r n => by
      show (true && (los n ((ps r).map .str) && (true && true))) = true
      rw [los_strs]; rfl
    refine mDef_rt0 ?_ (los_of fun x hx => by obtain ⟨r, _, rfl⟩ := List.mem_map.mp hx; exact lo r _)
    show b_grammar_of [some (.lst (rs.map RD)), none, none, none, none, none] μ = _
    unfold b_grammar_of
    rw [start, sSeq_ap, sFor_ap, iOf_ap, eVar0, R.bind_ok, items_lst]
    show (forL _ [2, 3, 4, 5] _ (rs.map RD) [some (.lst (rs.map RD)), some (.lst (ns.map .str)), none, none, none, none] μ).seq _ = _
    rw [e, SR.seq_nx, sRet_ap, eComp_map RD (ds := rs) RD (by simp) (fun r hr μ' => ⟨_, gtarget r _ _ _ _ _ rfl, rfl, by simp; rfl⟩) (fun r _ => lo r _) hl, R.then_ok]
end G81

namespace G81
open Mp PySem L2
/-! ### a whole text -/
def rows (t : Str) : List Str := Txt.split t "\n"
def par (r : Str) : Option Rl := parse (Txt.split r " ")
def parD (r : Str) : Rl := (par r).getD ([], 0)
def rulesOf (t : Str) : List Rl := (rows t).map parD
def isBad (r : Str) : Bool := (par r).isNone
/-- a text that is read at all -/
structure Fits (t : Str) : Prop where
  sg : Sg t
  len : t.length + 5 ≤ cap
section
variable {t : Str}
theorem Fits.row (h : Fits t) {r : Str} (hr : r ∈ rows t) : r.length + 5 ≤ cap ∧ Sg r := ⟨by have := split_short (y := "\n") rfl hr; have := h.len; omega, h.sg.split hr⟩
theorem Fits.words (h : Fits t) {r : Str} (hr : r ∈ rows t) {w : Str} (hw : w ∈ Txt.split r " ") : w.length ≤ cap ∧ Sg w := by
  obtain ⟨h1, h2⟩ := h.row hr
  exact ⟨by have := split_short (y := " ") rfl hw; omega, h2.split hw⟩
theorem Fits.rows_len (h : Fits t) : (rows t).length + 3 ≤ cap := by
  have h1 := split_sum (x := t) (y := "\n") rfl
  have := h.len
  unfold rows
  omega
theorem parse_sub {ws : List Str} {x : Rl} (h : parse ws = some x) : bodyB x.1 = true ∧ 0 ≤ x.2 ∧ ∀ w ∈ x.1, w ∈ ws := by
  unfold parse at h
  split at h
  · split at h
    · rename_i c
      cases h
      exact ⟨c.2, Int.natCast_nonneg _, fun w hw => List.mem_of_mem_take hw⟩
    · cases h
  · split at h
    · rename_i c
      cases h
      exact ⟨c, Int.le_refl _, fun w hw => hw⟩
    · cases h
theorem parD_some {r : Str} (h : isBad r = false) : ∃ x, par r = some x ∧ parD r = x := by
  unfold isBad at h
  unfold parD
  cases e : par r with
  | none => rw [e] at h; cases h
  | some x => exact ⟨x, rfl, rfl⟩
theorem read_grammar_eq (h : Fits t) (μ : Sto) : m_read_grammar [.str t] μ = if (rows t).any isBad = true then .er "NoText" μ else if (rulesOf t).any (badR (rulesOf t)) = true then .er "NoGrammar" μ else .ok (.lst ((rulesOf t).map RD)) μ := by
  have e0 : (("\n" : Str).length == 0) = false := rfl
  have hl := h.len
  have him : iOf (eMeth "str" fSplit (eVar 0) (aCons (eC (.str "\n")) aNil)) [some (.str t), none] μ = .ok ((rows t).map .str) μ := by
    have h2 : t.length + 2 ≤ cap := by omega
    simp [e0, h2, rows]
  have lo : ∀ r : Rl, ∀ n, (RD r).lo n = true := fun r n => by
    show (true && (los n ((ps r).map .str) && (true && true))) = true
    rw [los_strs]; rfl
  have hc := eCompX_if D.str (im := iOf (eMeth "str" fSplit (eVar 0) (aCons (eC (.str "\n")) aNil))) (g := gName 1) (kill := [1]) (t := tYes) (e := eFn m_read_rule (aCons (eVar 1) aNil)) (φ := [some (.str t), none]) (μ := μ) (ds := rows t) (fun r => RD (parD r)) (c := "NoText") isBad him (fun r hr μ' => by
    have hw : shortW (Txt.split r " ") := fun w hw => (h.words hr hw).1
    have e1 := read_rule_eq r μ' (by have := (h.row hr).1; omega) hw
    refine ⟨_, rfl, rfl, ?_⟩
    simp only [wipeF_cons, wipeF_nil, List.set_cons_succ, List.set_cons_zero, eFn_ap, aCons_ap, eVar1, R.bind_ok, aNil_ap, e1]
    unfold isBad parD par
    cases parse (Txt.split r " ") with
    | none => rfl
    | some x => rfl) (fun r _ => lo _ _) (by have := h.rows_len; omega)
  have hb : b_read_grammar [some (.str t), none] μ = ((if (rows t).any isBad = true then .er "NoText" μ else .ok (.lst ((rows t).map fun r => RD (parD r))) μ : R D).bind fun x μ1 => m_grammar_of [x] μ1).then [some (.str t), none] fun x μ1 => .rt x μ1 := by
    unfold b_read_grammar
    rw [sRet_ap, eFn_ap, aCons_ap, hc]
    cases (rows t).any isBad <;> rfl
  cases q : (rows t).any isBad with
  | true =>
    rw [q, if_pos rfl] at hb
    rw [if_pos rfl]
    exact mDef_er0 hb
  | false =>
    rw [q, if_neg Bool.false_ne_true] at hb
    rw [if_neg Bool.false_ne_true]
    have hm : (rows t).map (fun r => RD (parD r)) = (rulesOf t).map RD := by unfold rulesOf; rw [List.map_map]; rfl
    have hall : ∀ r ∈ rulesOf t, (∀ w ∈ r.1, PyData.strOk w = true ∧ w.length ≤ cap) ∧ 0 ≤ r.2 := fun x hx => by
      unfold rulesOf at hx
      obtain ⟨r, hr, rfl⟩ := List.mem_map.mp hx
      have hg : isBad r = false := by simpa using List.any_eq_false.mp q r hr
      obtain ⟨y, e1, e2⟩ := parD_some hg
      rw [e2]
      obtain ⟨_, p2, p3⟩ := parse_sub e1
      exact ⟨fun w hw => ⟨(h.words hr (p3 w hw)).2.ok, (h.words hr (p3 w hw)).1⟩, p2⟩
    have hne : rulesOf t ≠ [] := fun e => split_ne t "\n" rfl (List.map_eq_nil_iff.mp e)
    rw [hm, R.bind_ok, grammar_of_eq (rulesOf t) μ (by have := h.rows_len; unfold rulesOf; rw [List.length_map]; omega) hne (fun r hr w hw => (hall r hr).1 w hw) (fun r hr => (hall r hr).2)] at hb
    cases q2 : (rulesOf t).any (badR (rulesOf t)) with
    | true =>
      rw [q2, if_pos rfl] at hb
      rw [if_pos rfl]
      exact mDef_er0 hb
    | false =>
      rw [q2, if_neg Bool.false_ne_true] at hb
      rw [if_neg Bool.false_ne_true]
      exact mDef_rt0 hb (los_of fun x hx => by obtain ⟨r, _, rfl⟩ := List.mem_map.mp hx; exact lo r _)
end
/-! ### the law's own reading -/
def rowD (r : Str) : D := match par r with | some (ws, _) => .lst (ws.map .str) | none => .non
theorem sg_fine {ws : List Str} (h : ∀ w ∈ ws, PyData.strOk w = true) : cls (ws.map D.str) = true ∧ deps (ws.map D.str) = 0 := by
  induction ws with
  | nil => exact ⟨rfl, rfl⟩
  | cons a r ih =>
    obtain ⟨h1, h2⟩ := ih fun w hw => h w (List.mem_cons_of_mem _ hw)
    have ha := h a (List.mem_cons_self ..)
    refine ⟨?_, ?_⟩
    · show (PyData.strOk a && cls (r.map D.str)) = true
      rw [ha, h1]; rfl
    · show max 0 (deps (r.map D.str)) = 0
      rw [h2]; rfl
theorem none_in (rs : List Str) (h : ∀ r ∈ rs, ∀ x, par r = some x → ∀ w ∈ x.1, PyData.strOk w = true) (μ : Sto) : cIn .non (.lst (rs.map rowD)) μ = .ok (.bl (rs.any isBad)) μ := by
  have hany : isIn .non (rs.map rowD) = rs.any isBad := by
    unfold isIn
    rw [List.any_map]
    congr 1
    funext r
    show eqD (rowD r) .non = isBad r
    unfold rowD isBad
    cases par r with
    | none => rfl
    | some x => unfold eqD; simp [toPy, PyData.eqv]
  have hf : fines 60 (rs.map rowD) = true := by
    have : cls (rs.map rowD) = true ∧ deps (rs.map rowD) ≤ 1 := by
      clear hany
      induction rs with
      | nil => exact ⟨rfl, by decide⟩
      | cons r rr ih =>
        obtain ⟨h1, h2⟩ := ih fun z hz => h z (List.mem_cons_of_mem _ hz)
        have hr := h r (List.mem_cons_self ..)
        have h3 : (rowD r).cl = true ∧ (rowD r).dep ≤ 1 := by
          unfold rowD
          cases e : par r with
          | none => exact ⟨rfl, by decide⟩
          | some x =>
            obtain ⟨h3, h4⟩ := sg_fine (hr x e)
            exact ⟨h3, by show deps (x.1.map D.str) + 1 ≤ 1; omega⟩
        refine ⟨?_, ?_⟩
        · show ((rowD r).cl && cls (rr.map rowD)) = true
          rw [h3.1, h1]; rfl
        · show max (rowD r).dep (deps (rr.map rowD)) ≤ 1
          omega
    unfold fines
    rw [this.1, decide_eq_true (by omega)]
    rfl
  show (match inB .non (.lst (rs.map rowD)) μ with | some b => R.ok (D.bl b) μ | none => .no) = _
  have hi : inB .non (.lst (rs.map rowD)) μ = some (rs.any isBad) := by
    show (if flatD .non = true ∧ (rs.map rowD).all flatD = true then some (isIn .non (rs.map rowD)) else if (D.non).fine 60 = true ∧ fines 60 (rs.map rowD) = true then some (isIn .non (rs.map rowD)) else none) = _
    rw [hany]
    split
    · rfl
    · rw [if_pos ⟨rfl, hf⟩]
  rw [hi]
/-- a name that no rule is of, as the law sees it -/
def badH (hs : List Str) (r : Rl) : Bool := (ps r).any fun p => isHead p && !decide (p ∈ hs)
def hdsOf (t : Str) : List Str := (rulesOf t).map nm
noncomputable abbrev lpDue : SM := (sIf (tAnd (tVal (eFn m__law_is_head (aCons (eVar 4) aNil))) (tVal (eBin cNotIn (eVar 4) (eVar 2)))) (sRet (eC (.str "grammar"))) sNext)
theorem due_inner {hs ws : List Str} {μ : Sto} {d0 d1 d3 : Option D} (hw : shortW ws) :
    forL (gName 4) [4] lpDue (ws.map .str) [d0, d1, some (.lst (hs.map .str)), d3, none, none] μ = if ws.any (fun p => isHead p && !decide (p ∈ hs)) = true then .rt (.str "grammar") μ else .nx [d0, d1, some (.lst (hs.map .str)), d3, none, none] μ := by
  have key : ∀ w ∈ ws, lpDue [d0, d1, some (.lst (hs.map .str)), d3, some (.str w), none] μ = if (isHead w && !decide (w ∈ hs)) = true then .rt (.str "grammar") μ else .nx [d0, d1, some (.lst (hs.map .str)), d3, some (.str w), none] μ := fun w hw' => by
    have e1 := law_is_head_eq w μ (hw w hw')
    simp only [sIf_ap, tAnd_ap, tVal_ap, eFn_ap, aCons_ap, eVar4, R.bind_ok, aNil_ap, e1, eBin_ap, eVar2, notin_lst]
    cases isHead w
    · rfl
    · cases (!decide (w ∈ hs)) <;> rfl
  refine forL_rt (fun p => isHead p && !decide (p ∈ hs)) fun w hw' => ⟨[d0, d1, some (.lst (hs.map .str)), d3, some (.str w), none], rfl, fun q => ?_, fun q => ⟨[d0, d1, some (.lst (hs.map .str)), d3, some (.str w), none], ?_, rfl⟩⟩
  · rw [key w hw', q, if_pos rfl]
  · rw [key w hw', q, if_neg Bool.false_ne_true]
def dueOf (t : Str) : Str := if (rows t).any isBad = true then "text" else if (rulesOf t).any (badH (hdsOf t)) = true then "grammar" else "good"
theorem law_due_eq {t : Str} (h : Fits t) (μ : Sto) : m__law_due [.str t] μ = .ok (.str (dueOf t)) μ := by
  have hb : b__law_due [some (.str t), none, none, none, none, none] μ = .rt (.str (dueOf t)) μ := by
    unfold b__law_due
    have e0 : (("\n" : Str).length == 0) = false := rfl
    have hl := h.len
    have hw : ∀ r ∈ rows t, shortW (Txt.split r " ") := fun r hr w hw => (h.words hr hw).1
    have him : iOf (eMeth "str" fSplit (eVar 0) (aCons (eC (.str "\n")) aNil)) [some (.str t), none, none, none, none, none] μ = .ok ((rows t).map .str) μ := by
      have h2 : t.length + 2 ≤ cap := by omega
      simp [e0, h2, rows]
    have lo : ∀ r n, (rowD r).lo n = true := fun r n => by
      unfold rowD
      cases par r with
      | none => rfl
      | some x => exact los_strs _ _
    have c1 : eComp (iOf (eMeth "str" fSplit (eVar 0) (aCons (eC (.str "\n")) aNil))) (gName 5) [5] tYes (eFn m__law_row (aCons (eVar 5) aNil)) [some (.str t), none, none, none, none, none] μ = .ok (.lst ((rows t).map rowD)) μ :=
      eComp_map D.str rowD him (fun r hr μ' => by
        refine ⟨_, rfl, rfl, ?_⟩
        have e1 := law_row_eq r μ' (by have := (h.row hr).1; omega) (hw r hr)
        simp only [wipeF_cons, wipeF_nil, List.set_cons_succ, List.set_cons_zero, eFn_ap, aCons_ap, eVar5, R.bind_ok, aNil_ap, e1]
        rfl) (fun r _ => lo _ _) (by have := h.rows_len; omega)
    have hsub : ∀ r ∈ rows t, ∀ x, par r = some x → ∀ w ∈ x.1, PyData.strOk w = true ∧ w.length ≤ cap := fun r hr x e w hw' => by
      have z := h.words hr ((parse_sub e).2.2 w hw')
      exact ⟨z.2.ok, z.1⟩
    have c2 := none_in (rows t) (fun r hr x e w hw' => (hsub r hr x e w hw').1) μ
    simp only [sSeq_ap, sSet_ap, c1, R.then_ok, SR.seq_nx, List.set_cons_succ, List.set_cons_zero, sIf_ap, tVal_ap, eBin_ap, eC_ap, eVar1, R.bind_ok, c2]
    unfold dueOf
    cases q : (rows t).any isBad with
    | true => rfl
    | false =>
      have good : ∀ r ∈ rows t, ∃ x, par r = some x ∧ parD r = x ∧ rowD r = .lst (x.1.map .str) := fun r hr => by
        obtain ⟨x, e1, e2⟩ := parD_some (by simpa using List.any_eq_false.mp q r hr)
        refine ⟨x, e1, e2, ?_⟩
        unfold rowD
        rw [e1]
      have hrow : (rows t).map rowD = (rulesOf t).map fun x => D.lst (x.1.map .str) := by
        unfold rulesOf
        rw [List.map_map]
        refine List.map_congr_left fun r hr => ?_
        obtain ⟨x, _, e2, e3⟩ := good r hr
        rw [e3]
        show _ = D.lst ((parD r).1.map .str)
        rw [e2]
      have hok : ∀ x ∈ rulesOf t, bodyB x.1 = true ∧ shortW x.1 := fun x hx => by
        unfold rulesOf at hx
        obtain ⟨r, hr, rfl⟩ := List.mem_map.mp hx
        obtain ⟨x, e1, e2, _⟩ := good r hr
        rw [e2]
        exact ⟨(parse_sub e1).1, fun w hw' => (hsub r hr x e1 w hw').2⟩
      have c3 : eComp (iOf (eVar 1)) (gName 3) [3] tYes (eBin fIx (eVar 3) (eC (.int 0))) [some (.str t), some (.lst ((rows t).map rowD)), none, none, none, none] μ = .ok (.lst ((rulesOf t).map fun x => D.str (nm x))) μ :=
        eComp_map (fun x : Rl => D.lst (x.1.map .str)) (fun x => D.str (nm x)) (by simp [← hrow]) (fun x hx μ' => by
          refine ⟨_, rfl, rfl, ?_⟩
          have hl2 : 2 ≤ x.1.length := head_get (by have := (hok x hx).1; rw [body_split, Bool.and_eq_true] at this; exact this.1)
          have e1 : fIx (.lst (x.1.map .str)) (.int 0) μ' = .ok (.str (x.1.getD 0 "")) μ' := ix_at (k := 0) (by omega)
          simp only [wipeF_cons, wipeF_nil, List.set_cons_succ, List.set_cons_zero, eBin_ap, eVar3, R.bind_ok, eC_ap, e1]
          rfl) (fun _ _ => rfl) (by have := h.rows_len; unfold rulesOf; rw [List.length_map]; omega)
      have hhd : ((rulesOf t).map fun x => D.str (nm x)) = (hdsOf t).map D.str := by unfold hdsOf; rw [List.map_map]; rfl
      rw [hhd] at c3
      have hloop := forL_rt (k := fun x : Rl => D.lst (x.1.map .str)) (g := gName 3) (kill := [3, 4]) (v := .str "grammar") (φ := [some (.str t), some (.lst ((rows t).map rowD)), some (.lst ((hdsOf t).map .str)), none, none, none]) (μ := μ)
        (b := sFor (iOf (eSl (eVar 3) (oSome (eC (.int 2))) oNone)) (gName 4) [4] lpDue) (badH (hdsOf t)) (ds := rulesOf t) fun x hx => by
          have hi := due_inner (hs := hdsOf t) (ws := ps x) (μ := μ) (d0 := some (.str t)) (d1 := some (.lst ((rows t).map rowD))) (d3 := some (.lst (x.1.map .str))) (shortW_drop (hok x hx).2 2)
          have step : (sFor (iOf (eSl (eVar 3) (oSome (eC (.int 2))) oNone)) (gName 4) [4] lpDue) [some (.str t), some (.lst ((rows t).map rowD)), some (.lst ((hdsOf t).map .str)), some (.lst (x.1.map .str)), none, none] μ =
              forL (gName 4) [4] lpDue ((ps x).map .str) [some (.str t), some (.lst ((rows t).map rowD)), some (.lst ((hdsOf t).map .str)), some (.lst (x.1.map .str)), none, none] μ := by
            simp only [sFor_ap, iOf_ap, eSl_ap, eVar3, R.bind_ok, oSome_ap, eC_ap, oNone_ap, sl_from2, items_lst, R.then_ok, wipeF_cons, wipeF_nil, List.set_cons_succ, List.set_cons_zero]
            rfl
          refine ⟨[some (.str t), some (.lst ((rows t).map rowD)), some (.lst ((hdsOf t).map .str)), some (.lst (x.1.map .str)), none, none], rfl, fun q => ?_, fun q => ⟨[some (.str t), some (.lst ((rows t).map rowD)), some (.lst ((hdsOf t).map .str)), some (.lst (x.1.map .str)), none, none], ?_, rfl⟩⟩
          · unfold badH at q
            rw [step, hi, q, if_pos rfl]
          · unfold badH at q
            rw [step, hi, q, if_neg Bool.false_ne_true]
      simp only [sSeq_ap, sSet_ap, Bool.false_eq_true, if_false, sNext_ap, SR.seq_nx, c3, R.then_ok, List.set_cons_succ, List.set_cons_zero, sFor_ap, iOf_ap, eVar1, R.bind_ok, items_lst, wipeF_cons, wipeF_nil]
      rw [hrow] at hloop ⊢
      rw [hloop]
      cases (rulesOf t).any (badH (hdsOf t)) <;> rfl
  exact mDef_rt0 hb rfl
end G81

namespace G81
open Mp PySem L2
/-! ### names -/
theorem isN_head {w : Str} {c : Nat} {r : List Nat} (e : TL.tl w = c :: r) : isN w = decide (c ∈ TL.tl GREAT) := by
  unfold isN
  rw [e]
theorem ofB_all {s z : Str} {m : Int} (h : ofB s z m = true) : (∃ c r, TL.tl s = c :: r) ∧ ∀ c ∈ TL.tl s, c ∈ TL.tl z := by
  unfold ofB at h
  simp only [Bool.and_eq_true, decide_eq_true_eq, List.all_eq_true] at h
  refine ⟨?_, h.2⟩
  cases q : TL.tl s with
  | nil => rw [TL.len_tl, q] at h; exact absurd h.1.1 (by simp)
  | cons a b => exact ⟨a, b, rfl⟩
theorem isHead_isN {w : Str} (h : isHead w = true) : isN w = true := by
  unfold isHead at h
  rw [Bool.and_eq_true] at h
  obtain ⟨⟨c, r, e⟩, ha⟩ := ofB_all h.1
  have hp := StrLaws.partition_sum w "_"
  have ht : TL.tl w = c :: (r ++ TL.tl (Txt.partition w "_").2.1 ++ TL.tl (Txt.partition w "_").2.2) := by
    have z := congrArg TL.tl hp
    rw [TL.tl_append, TL.tl_append, e] at z
    exact z.symm
  rw [isN_head ht]
  exact decide_eq_true (ha c (by rw [e]; exact List.mem_cons_self ..))
theorem small_great {c : Nat} (h : c ∈ TL.tl SMALL) : c ∉ TL.tl GREAT := by
  have hd : ∀ c ∈ TL.tl SMALL, c ∉ TL.tl GREAT := by decide +kernel
  exact hd c h
theorem good_isN {w : Str} (h : goodW w = true) : isN w = isHead w := by
  cases q : isHead w with
  | true => exact isHead_isN q
  | false =>
    unfold goodW at h
    rw [q, Bool.or_false] at h
    obtain ⟨⟨c, r, e⟩, ha⟩ := ofB_all h
    rw [isN_head e]
    exact decide_eq_false (small_great (ha c (by rw [e]; exact List.mem_cons_self ..)))
theorem bad_same {rs : List Rl} {r : Rl} (h : bodyB r.1 = true) : badR rs r = badH (rs.map nm) r := by
  have hp : (ps r).all goodW = true := by rw [body_split, Bool.and_eq_true] at h; exact h.2
  unfold badR badH
  rw [List.all_eq_true] at hp
  have hd : ∀ p, decide (∃ q ∈ rs, nm q = p) = decide (p ∈ rs.map nm) := fun p => decide_eq_decide.mpr (by rw [List.mem_map])
  have key : ∀ l : List Str, (∀ p ∈ l, goodW p = true) → (l.any fun p => isN p && !decide (∃ q ∈ rs, nm q = p)) = l.any fun p => isHead p && !decide (p ∈ rs.map nm) := fun l => by
    induction l with
    | nil => exact fun _ => rfl
    | cons a l ih =>
      intro hl
      rw [List.any_cons, List.any_cons, ih fun p hp => hl p (List.mem_cons_of_mem _ hp), good_isN (hl a (List.mem_cons_self ..)), hd]
  exact key _ hp
/-! ### numbers written -/
theorem digits_lt : ∀ cs : List Nat, NumText.AllDigits cs → NumText.digitsVal cs < 10 ^ cs.length := by
  intro cs
  generalize hn : cs.length = n
  induction n generalizing cs with
  | zero =>
    intro _
    rw [List.eq_nil_of_length_eq_zero hn]
    decide
  | succ n ih =>
    intro h
    have hne : cs ≠ [] := fun e => by rw [e] at hn; cases hn
    have e : cs = cs.dropLast ++ [cs.getLast hne] := (List.dropLast_concat_getLast hne).symm
    have hl : cs.dropLast.length = n := by rw [List.length_dropLast]; omega
    have h1 := ih cs.dropLast hl fun c hc => h c (List.dropLast_subset cs hc)
    have h2 := h (cs.getLast hne) (List.getLast_mem hne)
    rw [e, NumText.digitsVal_snoc, Nat.pow_succ]
    omega
theorem num_back {t : Str} (h : costOk t = true) : Str.ofString (toString (val t)) = t ∧ 0 < val t ∧ (val t).natAbs.log2 < 1920 := by
  obtain ⟨h1, h2, h3, h4⟩ := costOk_digits h
  obtain ⟨c, r, e⟩ : ∃ c r, TL.tl t = c :: r := by
    cases q : TL.tl t with
    | nil => exact absurd q h2
    | cons a b => exact ⟨a, b, rfl⟩
  have hc := h1 c (by rw [e]; exact List.mem_cons_self ..)
  have hc9 : 49 ≤ c := by
    rw [e] at h4
    simp only [List.head?_cons, ne_eq, Option.some.injEq] at h4
    omega
  refine ⟨?_, ?_, ?_⟩
  · refine TL.ext_tl ?_
    show TL.tl (Str.ofString (toString ((NumText.digitsVal (TL.tl t) : Nat) : Int))) = _
    rw [TL.tl_num]
    unfold TL.numL
    rw [NumText.toDigits_digitsVal r.length (TL.tl t) (by rw [e]; rfl) h1 (.inr ⟨c, r, e, hc9⟩), List.map_map]
    refine (List.map_congr_left fun d hd => ?_).trans (List.map_id _)
    have hd := h1 d hd
    show (Char.ofNat d).toNat = d
    have : ∀ d, 48 ≤ d → d ≤ 57 → (Char.ofNat d).toNat = d := by
      intro d a b
      have : d = 48 ∨ d = 49 ∨ d = 50 ∨ d = 51 ∨ d = 52 ∨ d = 53 ∨ d = 54 ∨ d = 55 ∨ d = 56 ∨ d = 57 := by omega
      rcases this with rfl | rfl | rfl | rfl | rfl | rfl | rfl | rfl | rfl | rfl <;> rfl
    exact this d hd.1 hd.2
  · unfold val
    rw [e]
    exact Int.natCast_pos.mpr (NumText.digitsVal_pos hc9)
  · unfold val
    rw [Int.natAbs_natCast]
    refine log2_lt ?_ (by decide)
    refine Nat.lt_of_lt_of_le (digits_lt _ h1) ?_
    rw [← TL.len_tl]
    calc 10 ^ t.length ≤ 10 ^ 60 := Nat.pow_le_pow_right (by decide) h3
      _ ≤ 2 ^ 200 := by decide +kernel
      _ ≤ 2 ^ 1920 := Nat.pow_le_pow_right (by decide) (by decide)
/-! ### a rule written -/
def wordsOf (x : Rl) : List Str := [nm x, "="] ++ ps x ++ (if 0 < x.2 then [(":" : Str), Str.ofString (toString x.2)] else [])
theorem body_words {ws : List Str} (h : bodyB ws = true) : ws = ws.getD 0 "" :: "=" :: ws.drop 2 := by
  match ws, h with
  | a :: e :: r, h =>
    have h : (decide (e = "=") && isHead a && r.all goodW) = true := h
    simp only [Bool.and_eq_true, decide_eq_true_eq] at h
    rw [h.1.1]
    rfl
theorem words_back {ws : List Str} {x : Rl} (h : parse ws = some x) : wordsOf x = ws ∧ (x.2.natAbs.log2 < 1920) := by
  unfold parse at h
  split at h
  · rename_i hc
    split at h
    · rename_i c
      cases h
      obtain ⟨n1, n2, n3⟩ := num_back c.1
      unfold costed at hc
      simp only [Bool.and_eq_true, decide_eq_true_eq] at hc
      refine ⟨?_, n3⟩
      unfold wordsOf
      rw [if_pos n2]
      dsimp only
      rw [n1]
      have hb := body_words c.2
      show [(ws.take (ws.length - 2)).getD 0 "", "="] ++ (ws.take (ws.length - 2)).drop 2 ++ _ = _
      have e1 : ([(ws.take (ws.length - 2)).getD 0 "", "="] ++ (ws.take (ws.length - 2)).drop 2 : List Str) = ws.take (ws.length - 2) := hb.symm
      rw [e1]
      have hl := hc.1
      have e2 : ws.drop (ws.length - 2) = [ws.getD (ws.length - 2) "", ws.getD (ws.length - 1) ""] := by
        have i1 : ws.length - 2 < ws.length := by omega
        have i2 : ws.length - 1 < ws.length := by omega
        rw [List.drop_eq_getElem_cons i1, show ws.length - 2 + 1 = ws.length - 1 by omega, List.drop_eq_getElem_cons i2, show ws.length - 1 + 1 = ws.length by omega, List.drop_length]
        rw [List.getD_eq_getElem?_getD, List.getD_eq_getElem?_getD, List.getElem?_eq_getElem i1, List.getElem?_eq_getElem i2]
        rfl
      rw [← hc.2, ← e2, List.take_append_drop]
    · cases h
  · split at h
    · rename_i c
      cases h
      refine ⟨?_, show (0 : Int).natAbs.log2 < 1920 by decide⟩
      unfold wordsOf
      rw [if_neg (show ¬ (0 : Int) < 0 by decide), List.append_nil]
      exact (body_words c).symm
    · cases h
theorem shown_rule_eq {r : Str} {x : Rl} (h : par r = some x) (hl : r.length + 5 ≤ cap) (μ : Sto) : m_shown_rule [RD x] μ = .ok (.str r) μ := by
  obtain ⟨h1, h2⟩ := words_back h
  have hs := split_sum (x := r) (y := " ") rfl
  have hw2 : (wordsOf x).length ≤ r.length + 1 := by rw [h1]; omega
  have hjoin : fJoin (.str " ") [.lst ((wordsOf x).map .str)] μ = .ok (.str r) μ := by
    rw [join_lst (by rw [h1]; show _ + _ * 1 ≤ _; omega), h1, TL.join_eq, StrLaws.join_split]
  have hlen : (ps x).length + 4 ≤ cap := by
    have : 2 + (ps x).length ≤ (wordsOf x).length := by
      unfold wordsOf
      simp only [List.length_append, List.length_cons, List.length_nil]
      omega
    omega
  refine mDef_rt0 ?_ rfl
  show b_shown_rule [some (RD x), none, none, none, none] μ = _
  unfold b_shown_rule
  have ha : gTup (gCons (gName 1) (gCons (gName 2) (gCons (gName 3) gNil))) (RD x) [some (RD x), none, none, none, none] μ = some [some (RD x), some (.str (nm x)), some (.tup ((ps x).map .str)), some (.int x.2), none] := rfl
  have l2 : ([D.str (nm x), D.str "="] : List D).length + ((ps x).map D.str).length ≤ cap := by simp; omega
  simp only [sSeq_ap, sAsg_ap, eVar0, R.then_ok, ha, SR.seq_nx, sSet_ap, eBin_ap, eLst_ap, aCons_ap, eVar1, R.bind_ok, eC_ap, aNil_ap, eFn_ap, eVar2, fList_tup, fAdd_lst, if_pos l2, List.set_cons_succ, List.set_cons_zero, sIf_ap, tVal_ap, eVar3, cmpI_int]
  by_cases hp : 0 < x.2
  · have hf : fStr [.int x.2] μ = .ok (.str (Str.ofString (toString x.2))) μ := if_pos h2
    have l3 : (([D.str (nm x), D.str "="] : List D) ++ (ps x).map D.str).length + ([D.str ":", D.str (Str.ofString (toString x.2))] : List D).length ≤ cap := by simp; omega
    have hws : ([D.str (nm x), D.str "="] : List D) ++ (ps x).map D.str ++ [D.str ":", D.str (Str.ofString (toString x.2))] = (wordsOf x).map D.str := by
      unfold wordsOf
      rw [if_pos hp, List.map_append, List.map_append]
      rfl
    simp only [decide_eq_true hp, if_true, sSet_ap, eBin_ap, eVar4, R.bind_ok, eLst_ap, aCons_ap, eC_ap, eFn_ap, eVar3, aNil_ap, hf, fAdd_lst, if_pos l3, R.then_ok, List.set_cons_succ, List.set_cons_zero, SR.seq_nx, sRet_ap, eMeth_ap, tyD_str, hws, hjoin]
  · have hws : ([D.str (nm x), D.str "="] : List D) ++ (ps x).map D.str = (wordsOf x).map D.str := by
      unfold wordsOf
      rw [if_neg hp, List.append_nil, List.map_append]
      rfl
    simp only [decide_eq_false hp, Bool.false_eq_true, if_false, sNext_ap, SR.seq_nx, sRet_ap, eMeth_ap, tyD_str, if_true, eC_ap, R.bind_ok, aCons_ap, eVar4, aNil_ap, hws, hjoin, R.then_ok]
theorem shown_eq {t : Str} (h : Fits t) (hg : (rows t).any isBad = false) (μ : Sto) : m_shown_grammar [.lst ((rulesOf t).map RD)] μ = .ok (.str t) μ := by
  refine mDef_rt0 ?_ rfl
  show b_shown_grammar [some (.lst ((rulesOf t).map RD)), none] μ = _
  unfold b_shown_grammar
  have hm : (rulesOf t).map RD = (rows t).map fun r => RD (parD r) := by unfold rulesOf; rw [List.map_map]; rfl
  have hc : eComp (iOf (eVar 0)) (gName 1) [1] tYes (eFn m_shown_rule (aCons (eVar 1) aNil)) [some (.lst ((rulesOf t).map RD)), none] μ = .ok (.lst ((rows t).map .str)) μ :=
    eComp_map (fun r => RD (parD r)) D.str (by simp [← hm]) (fun r hr μ' => by
      obtain ⟨x, e1, e2⟩ := parD_some (by simpa using List.any_eq_false.mp hg r hr)
      refine ⟨_, rfl, rfl, ?_⟩
      simp only [wipeF_cons, wipeF_nil, List.set_cons_succ, List.set_cons_zero, eFn_ap, aCons_ap, eVar1, R.bind_ok, aNil_ap, e2, shown_rule_eq e1 (h.row hr).1 μ']) (fun _ _ => rfl) (by have := h.rows_len; omega)
  have hs := split_sum (x := t) (y := "\n") rfl
  have hj : fJoin (.str "\n") [.lst ((rows t).map .str)] μ = .ok (.str t) μ := by
    have hl := h.len
    rw [join_lst (by show ((Txt.split t "\n").map (·.length)).sum + (Txt.split t "\n").length * 1 ≤ cap; omega), TL.join_eq]
    unfold rows
    rw [StrLaws.join_split]
  simp only [sRet_ap, eMeth_ap, eC_ap, R.bind_ok, tyD_str, if_true, aCons_ap, hc, aNil_ap, hj, R.then_ok]
end G81

namespace G81
open Mp PySem L2
/-! ### the law, its text given -/
theorem due_cases {t : Str} (h : Fits t) (μ : Sto) :
    (m_read_grammar [.str t] μ = .er "NoText" μ ∧ dueOf t = "text") ∨ (m_read_grammar [.str t] μ = .er "NoGrammar" μ ∧ dueOf t = "grammar") ∨ (m_read_grammar [.str t] μ = .ok (.lst ((rulesOf t).map RD)) μ ∧ dueOf t = "good" ∧ (rows t).any isBad = false) := by
  rw [read_grammar_eq h]
  unfold dueOf
  cases q : (rows t).any isBad with
  | true => exact .inl ⟨rfl, rfl⟩
  | false =>
    have hb : (rulesOf t).any (badR (rulesOf t)) = (rulesOf t).any (badH (hdsOf t)) := by
      have key : ∀ l : List Rl, (∀ x ∈ l, bodyB x.1 = true) → l.any (badR (rulesOf t)) = l.any (badH (hdsOf t)) := fun l => by
        induction l with
        | nil => exact fun _ => rfl
        | cons a l ih =>
          intro hl
          rw [List.any_cons, List.any_cons, ih fun p hp => hl p (List.mem_cons_of_mem _ hp), bad_same (hl a (List.mem_cons_self ..))]
          rfl
      refine key _ fun x hx => ?_
      unfold rulesOf at hx
      obtain ⟨r, hr, rfl⟩ := List.mem_map.mp hx
      obtain ⟨x, e1, e2⟩ := parD_some (by simpa using List.any_eq_false.mp q r hr)
      rw [e2]
      exact (parse_sub e1).1
    rw [if_neg Bool.false_ne_true, if_neg Bool.false_ne_true, hb]
    cases (rulesOf t).any (badH (hdsOf t)) with
    | true => exact .inr (.inl ⟨rfl, rfl⟩)
    | false => exact .inr (.inr ⟨rfl, rfl, rfl⟩)
theorem eqD_bls : ∀ a b : List Bool, eqD (.lst (a.map D.bl)) (.lst (b.map D.bl)) = decide (a = b) := by
  have key : ∀ a b : List Bool, PyData.eqvAll (toPys (a.map D.bl)) (toPys (b.map D.bl)) = decide (a = b) := fun a => by
    induction a with
    | nil => intro b; cases b <;> simp [toPys, PyData.eqvAll]
    | cons x r ih =>
      intro b
      cases b with
      | nil => simp [toPys, PyData.eqvAll]
      | cons y q =>
        simp only [List.map_cons, toPys, PyData.eqvAll, ih, toPy, PyData.eqv]
        cases x <;> cases y <;> simp
  intro a b
  unfold eqD
  simp only [toPy, PyData.eqv, key]
theorem fine_bls (a : List Bool) (ha : a.length ≤ 100) : (D.lst (a.map D.bl)).fine 64 = true := by
  have key : ∀ a : List Bool, cls (a.map D.bl) = true ∧ deps (a.map D.bl) = 0 := fun a => by
    induction a with
    | nil => exact ⟨rfl, rfl⟩
    | cons x r ih => exact ⟨by show (true && cls (r.map D.bl)) = true; rw [ih.1]; rfl, by show max 0 (deps (r.map D.bl)) = 0; rw [ih.2]; rfl⟩
  obtain ⟨h1, h2⟩ := key a
  show ((D.lst (a.map D.bl)).cl && decide ((D.lst (a.map D.bl)).dep ≤ 64)) = true
  rw [show (D.lst (a.map D.bl)).cl = cls (a.map D.bl) from rfl, h1, show (D.lst (a.map D.bl)).dep = deps (a.map D.bl) + 1 from rfl, h2]
  rfl
theorem cEq_bls (a b : List Bool) (ha : a.length ≤ 100) (hb : b.length ≤ 100) (μ : Sto) : cEq (.lst (a.map .bl)) (.lst (b.map .bl)) μ = .ok (.bl (decide (a = b))) μ := by
  show (match eqB (.lst (a.map .bl)) (.lst (b.map .bl)) μ with | some b => R.ok (D.bl b) μ | none => .no) = _
  unfold eqB
  rw [if_neg (show ¬ scalD (.lst (a.map .bl)) (.lst (b.map .bl)) = true from fun h => by cases h), if_pos ⟨fine_bls a ha, fine_bls b hb⟩]
  show R.ok (D.bl (eqD (.lst (a.map .bl)) (.lst (b.map .bl)))) μ = _
  rw [eqD_bls]
theorem kinds_T (μ : Sto) : m__law_kinds [.exc "NoText"] μ = .ok (.lst ([true, false, false, false, false, false].map .bl)) μ := by
  refine mDef_rt0 ?_ rfl
  rfl
theorem kinds_G (μ : Sto) : m__law_kinds [.exc "NoGrammar"] μ = .ok (.lst ([false, true, false, false, false, false].map .bl)) μ := by
  refine mDef_rt0 ?_ rfl
  rfl
theorem law_of_text {sc : D} {t : Str} (ht : m__law_text [sc] [] = .ok (.str t) []) (h : Fits t) : m_law [sc] [] = .ok (.bl true) [] := by
  refine mDef_rt0 ?_ rfl
  show b_law [some sc, none, none, none, none, none] [] = _
  have start : ∀ {k : SM}, (sSeq (sSet 1 (eFn m__law_text (aCons (eVar 0) aNil))) (sSeq (sSet 2 (eC .non)) (sSeq (sSet 3 (eC .non)) k))) [some sc, none, none, none, none, none] [] = k [some sc, some (.str t), some .non, some .non, none, none] [] := fun {k} => by
    simp only [sSeq_ap, sSet_ap, eFn_ap, aCons_ap, eVar0, R.bind_ok, aNil_ap, ht, R.then_ok, SR.seq_nx, eC_ap, List.set_cons_succ, List.set_cons_zero]
  unfold b_law
  rw [start, sSeq_ap]
  have hdue := law_due_eq h []
  have hb : (sSet 2 (eFn m_read_grammar (aCons (eVar 1) aNil))) [some sc, some (.str t), some .non, some .non, none, none] [] = (m_read_grammar [.str t] []).then [some sc, some (.str t), some .non, some .non, none, none] fun x μ1 => .nx ([some sc, some (.str t), some .non, some .non, none, none].set 2 (some x)) μ1 := by
    simp only [sSet_ap, eFn_ap, aCons_ap, eVar1, R.bind_ok, aNil_ap]
  rcases due_cases h [] with ⟨e, ed⟩ | ⟨e, ed⟩ | ⟨e, ed, hg⟩
  · rw [ed] at hdue
    have htry : sTry (tabL [("NoGrammar", true), ("NoText", true)]) 4 3 (sSet 2 (eFn m_read_grammar (aCons (eVar 1) aNil))) [some sc, some (.str t), some .non, some .non, none, none] [] = .nx [some sc, some (.str t), some .non, some (.exc "NoText"), none, none] [] := by
      unfold sTry
      rw [hb, e]
      rfl
    have hcmp := cEq_bls [true, false, false, false, false, false] [true, false, false, false, false, false] (by decide) (by decide) []
    rw [htry, SR.seq_nx]
    simp only [sSeq_ap, sSet_ap, eFn_ap, aCons_ap, eVar1, R.bind_ok, aNil_ap, hdue, R.then_ok, SR.seq_nx, List.set_cons_succ, List.set_cons_zero, sIf_ap, tVal_ap, eBin_ap, eVar5, eC_ap, cEq_str, sNext_ap]
    rw [decide_eq_false (show ¬ (("text" : Str) = "good") by decide +kernel), if_neg Bool.false_ne_true, SR.seq_nx]
    simp only [sSeq_ap, sIf_ap, tNot_ap, tVal_ap, eUn_ap, eVar3, R.bind_ok]
    show (sRet _ [some sc, some (.str t), some .non, some (.exc "NoText"), none, some (.str "text")] []) = _
    simp only [sRet_ap, eBin_ap, eFn_ap, aCons_ap, eVar3, R.bind_ok, aNil_ap, kinds_T, eLst_ap, eVar5, eC_ap, cEq_str]
    rw [(decide_eq_true True.intro : decide True = true), decide_eq_false (show ¬ (("text" : Str) = "grammar") by decide +kernel)]
    rw [show ([D.bl true, D.bl false, D.bl false, D.bl false, D.bl false, D.bl false] : List D) = [true, false, false, false, false, false].map D.bl from rfl, hcmp]
    rfl
  · rw [ed] at hdue
    have htry : sTry (tabL [("NoGrammar", true), ("NoText", true)]) 4 3 (sSet 2 (eFn m_read_grammar (aCons (eVar 1) aNil))) [some sc, some (.str t), some .non, some .non, none, none] [] = .nx [some sc, some (.str t), some .non, some (.exc "NoGrammar"), none, none] [] := by
      unfold sTry
      rw [hb, e]
      rfl
    have hcmp := cEq_bls [false, true, false, false, false, false] [false, true, false, false, false, false] (by decide) (by decide) []
    rw [htry, SR.seq_nx]
    simp only [sSeq_ap, sSet_ap, eFn_ap, aCons_ap, eVar1, R.bind_ok, aNil_ap, hdue, R.then_ok, SR.seq_nx, List.set_cons_succ, List.set_cons_zero, sIf_ap, tVal_ap, eBin_ap, eVar5, eC_ap, cEq_str, sNext_ap]
    rw [decide_eq_false (show ¬ (("grammar" : Str) = "good") by decide +kernel), if_neg Bool.false_ne_true, SR.seq_nx]
    simp only [sSeq_ap, sIf_ap, tNot_ap, tVal_ap, eUn_ap, eVar3, R.bind_ok]
    show (sRet _ [some sc, some (.str t), some .non, some (.exc "NoGrammar"), none, some (.str "grammar")] []) = _
    simp only [sRet_ap, eBin_ap, eFn_ap, aCons_ap, eVar3, R.bind_ok, aNil_ap, kinds_G, eLst_ap, eVar5, eC_ap, cEq_str]
    rw [decide_eq_false (show ¬ (("grammar" : Str) = "text") by decide +kernel), (decide_eq_true True.intro : decide True = true)]
    rw [show ([D.bl false, D.bl true, D.bl false, D.bl false, D.bl false, D.bl false] : List D) = [false, true, false, false, false, false].map D.bl from rfl, hcmp]
    rfl
  · rw [ed] at hdue
    have htry : sTry (tabL [("NoGrammar", true), ("NoText", true)]) 4 3 (sSet 2 (eFn m_read_grammar (aCons (eVar 1) aNil))) [some sc, some (.str t), some .non, some .non, none, none] [] = .nx [some sc, some (.str t), some (.lst ((rulesOf t).map RD)), some .non, none, none] [] := by
      unfold sTry
      rw [hb, e]
      rfl
    have hsh := shown_eq h hg []
    rw [htry, SR.seq_nx]
    simp only [sSeq_ap, sSet_ap, eFn_ap, aCons_ap, eVar1, R.bind_ok, aNil_ap, hdue, R.then_ok, SR.seq_nx, List.set_cons_succ, List.set_cons_zero, sIf_ap, tVal_ap, eBin_ap, eVar5, eC_ap, cEq_str, sNext_ap]
    rw [(decide_eq_true True.intro : decide True = true), if_pos rfl]
    have h1 : eBin cIsN (eVar 3) (eC .non) [some sc, some (.str t), some (.lst ((rulesOf t).map RD)), some .non, none, some (.str "good")] [] = .ok (.bl true) [] := rfl
    have h2 : eUn (fIsa (tabS [("NoneType", false), ("list", true), ("tuple", false), ("str", false), ("int", false)]) (tabL [])) (eVar 2) [some sc, some (.str t), some (.lst ((rulesOf t).map RD)), some .non, none, some (.str "good")] [] = .ok (.bl true) [] := rfl
    rw [sRet_ap, eAnd_bl h1, if_pos rfl, eAnd_bl h2, if_pos rfl]
    simp only [eBin_ap, eFn_ap, aCons_ap, eVar2, R.bind_ok, aNil_ap, hsh, eVar1, cEq_str, R.then_ok]
    rw [(decide_eq_true True.intro : decide True = true)]
    rfl
end G81

namespace G81
open Mp PySem L2
/-! ### the law's texts: short, of plain signs -/
def Nm (k : Nat) (s : Str) : Prop := Sg s ∧ s.length ≤ k
theorem Nm.up {j k : Nat} {s : Str} (h : Nm j s) (l : j ≤ k) : Nm k s := ⟨h.1, Nat.le_trans h.2 l⟩
theorem Nm.app {j k : Nat} {s t : Str} (h : Nm j s) (h' : Nm k t) : Nm (j + k) (s ++ t) := ⟨h.1.app h'.1, by rw [Str.length_append]; have := h.2; have := h'.2; omega⟩
theorem num_nm {v : Int} {k : Nat} (h0 : 0 ≤ v) (hk : 0 < k) (h : v < 10 ^ k) : Nm k (Str.ofString (toString v)) := by
  obtain ⟨n, rfl⟩ := Int.eq_ofNat_of_zero_le h0
  have hn : n < 10 ^ k := by
    have e : ((10 : Int) ^ k) = ((10 ^ k : Nat) : Int) := by norm_cast
    rw [e] at h
    exact Int.ofNat_lt.mp h
  refine ⟨fun c hc => ?_, ?_⟩
  · rw [TL.tl_num] at hc
    have := TL.numL_digits n c hc
    omega
  · rw [TL.len_tl, TL.tl_num]
    exact TL.numL_len hk hn
theorem str_ok {v : Int} {k : Nat} {μ : Sto} (h0 : 0 ≤ v) (h : v < 10 ^ k) (hk : k ≤ 400) : fStr [.int v] μ = .ok (.str (Str.ofString (toString v))) μ := by
  obtain ⟨n, rfl⟩ := Int.eq_ofNat_of_zero_le h0
  have hn : n < 10 ^ k := by
    have e : ((10 : Int) ^ k) = ((10 ^ k : Nat) : Int) := by norm_cast
    rw [e] at h
    exact Int.ofNat_lt.mp h
  refine if_pos ?_
  rw [show ((n : Nat) : Int).natAbs = n from Int.natAbs_natCast n]
  refine log2_lt (Nat.lt_of_lt_of_le hn ?_) (by decide)
  calc 10 ^ k ≤ 16 ^ k := Nat.pow_le_pow_left (by decide) k
    _ = 2 ^ (4 * k) := by rw [Nat.pow_mul]
    _ ≤ 2 ^ 1920 := Nat.pow_le_pow_right (by decide) (by omega)
/-- a sign picked -/
def pickS (z : Str) (i : Int) : Str := ⟨#[(TL.tl z).getD (i % (z.length : Int)).toNat 0]⟩
theorem pick_ix {z : Str} {i m : Int} {μ : Sto} (hm : m = (z.length : Int)) (h0 : 0 < z.length) (hc : z.length ≤ cap) : fIx (.str z) (.int (i % m)) μ = .ok (.str (pickS z i)) μ := by
  subst hm
  have h1 : 0 ≤ i % (z.length : Int) := Int.emod_nonneg _ (by omega)
  have h2 : i % (z.length : Int) < (z.length : Int) := Int.emod_lt_of_pos _ (by omega)
  refine ix_str hc ?_
  have hk : (i % (z.length : Int)).toNat < z.cps.toList.length := by
    rw [show z.cps.toList.length = z.length from (TL.len_tl z).symm]
    omega
  rw [atI_nn (k := (i % (z.length : Int)).toNat) (by omega) hk]
  congr 1
  show _ = z.cps.toList.getD _ 0
  rw [List.getD_eq_getElem?_getD, List.getElem?_eq_getElem hk]
  rfl
theorem pick_nm {z : Str} {i : Int} (h0 : 0 < z.length) (hz : Sg z) : Nm 1 (pickS z i) := by
  have h1 : 0 ≤ i % (z.length : Int) := Int.emod_nonneg _ (by omega)
  have h2 : i % (z.length : Int) < (z.length : Int) := Int.emod_lt_of_pos _ (by omega)
  have hk : (i % (z.length : Int)).toNat < (TL.tl z).length := by
    rw [← TL.len_tl]
    omega
  refine ⟨fun c hc => ?_, Nat.le_refl _⟩
  have e : c = (TL.tl z).getD (i % (z.length : Int)).toNat 0 := by
    have : c ∈ [(TL.tl z).getD (i % (z.length : Int)).toNat 0] := hc
    exact List.mem_singleton.mp this
  rw [e, List.getD_eq_getElem?_getD, List.getElem?_eq_getElem hk]
  exact hz _ (List.getElem_mem hk)
theorem join_nm {ss : List Str} {j : Nat} (h : ∀ s ∈ ss, Nm j s) : Nm (ss.length * j) (Txt.join "" ss) := by
  refine ⟨Sg.join (fun c hc => by cases hc) fun s hs => (h s hs).1, ?_⟩
  rw [TL.join_eq]
  by_cases hne : ss = []
  · subst hne
    exact Nat.zero_le _
  · have e := join_len "" ss hne
    have e2 : (("" : Str)).length = 0 := rfl
    rw [e2, Nat.mul_zero] at e
    have := len_le_sum_n ss fun p hp => (h p hp).2
    omega
/-- ''.join([z[.. % m] for k in range(n)]) -/
theorem picks {z : Str} {n : Nat} {μ : Sto} (f : Nat → Int) (h0 : 0 < z.length) (hz : Sg z) (hn : n ≤ 8) : fJoin (.str "") [.lst ((List.range n).map fun k => .str (pickS z (f k)))] μ = .ok (.str (Txt.join "" ((List.range n).map fun k => pickS z (f k)))) μ ∧ Nm 8 (Txt.join "" ((List.range n).map fun k => pickS z (f k))) := by
  have hs : ∀ s ∈ (List.range n).map fun k => pickS z (f k), Nm 1 s := fun s hs => by
    obtain ⟨k, _, rfl⟩ := List.mem_map.mp hs
    exact pick_nm h0 hz
  refine ⟨?_, (join_nm hs).up (by rw [List.length_map, List.length_range]; omega)⟩
  have e : ((List.range n).map fun k => D.str (pickS z (f k))) = ((List.range n).map fun k => pickS z (f k)).map D.str := by rw [List.map_map]; rfl
  rw [e, join_lst]
  have := len_le_sum_n ((List.range n).map fun k => pickS z (f k)) fun p hp => (hs p hp).2
  rw [List.length_map, List.length_range] at this ⊢
  have hc : cap = 1000000 := rfl
  have e2 : (("" : Str)).length = 0 := rfl
  rw [e2]
  omega
theorem cell_at_eq (ns : List Int) (k : Nat) (μ : Sto) : m__law_cell_at [.rol (ns.map .int), .int (k : Int)] μ = .ok (.int (ns.getD k 0)) μ := by
  refine mDef_rt0 ?_ rfl
  show b__law_cell_at [some (.rol (ns.map .int)), some (.int (k : Int))] μ = _
  unfold b__law_cell_at
  simp only [sSeq_ap, sIf_ap, tVal_ap, eBin_ap, eVar1, R.bind_ok, eFn_ap, aCons_ap, eVar0, aNil_ap, fLen_rol, List.length_map, cmpI_int, R.then_ok]
  by_cases h : k < ns.length
  · have h' : (k : Int) < ns.length := by omega
    have hk : k < (ns.map D.int).length := by rw [List.length_map]; exact h
    rw [decide_eq_true h', if_pos rfl, sRet_ap, eBin_ap, eVar0, R.bind_ok, eVar1, R.bind_ok, ix_rol (atI_nn rfl hk), R.then_ok, SR.seq_rt]
    simp only [List.getElem_map]
    rw [List.getD_eq_getElem?_getD, List.getElem?_eq_getElem h]
    rfl
  · have h' : ¬ (k : Int) < ns.length := by omega
    rw [decide_eq_false h', if_neg Bool.false_ne_true, List.getD_eq_getElem?_getD, List.getElem?_eq_none (by omega)]
    rfl
theorem word_ok (n : Int) (μ : Sto) : ∃ w, m__law_word [.int n] μ = .ok (.str w) μ ∧ Nm 8 w := by
  have hm : 0 ≤ n / 5 % 8 ∧ n / 5 % 8 < 8 := by omega
  obtain ⟨m, hm8, em⟩ : ∃ m : Nat, m ≤ 8 ∧ 1 + n / 5 % 8 = (m : Int) := ⟨(1 + n / 5 % 8).toNat, by omega, by omega⟩
  obtain ⟨j1, j2⟩ := picks (z := "eatonihsr") (n := m) (μ := μ) (fun k : Nat => n / ((k : Int) + 1) + k) (by decide +kernel) (show ∀ c ∈ TL.tl "eatonihsr", c < 128 by decide +kernel) hm8
  refine ⟨_, mDef_rt0 ?_ rfl, j2⟩
  show b__law_word [some (.int n), none] μ = _
  unfold b__law_word
  have hr : iRange (aCons (eBin fAdd (eC (.int 1)) (eBin fMod (eBin fDiv (eVar 0) (eC (.int 5))) (eC (.int 8)))) aNil) [some (.int n), none] μ = .ok (rangeD 0 m) μ := by
    have e1 : fDiv (.int n) (.int 5) μ = .ok (.int (n / 5)) μ := div_sm (by decide) (by decide)
    have z := range_ok (n := (m : Int)) (as := aCons (eBin fAdd (eC (.int 1)) (eBin fMod (eBin fDiv (eVar 0) (eC (.int 5))) (eC (.int 8)))) aNil) (φ := [some (.int n), none]) (μ := μ) (by
      rw [← em]
      simp only [aCons_ap, eBin_ap, eC_ap, R.bind_ok, eVar0, e1, fMod_int, fAdd_int, aNil_ap]
      rfl) (by omega) (by have : cap = 1000000 := rfl; omega)
    rwa [Int.toNat_natCast] at z
  have hc : eComp (iRange (aCons (eBin fAdd (eC (.int 1)) (eBin fMod (eBin fDiv (eVar 0) (eC (.int 5))) (eC (.int 8)))) aNil)) (gName 1) [1] tYes (eBin fIx (eC (.str "eatonihsr")) (eBin fMod (eBin fAdd (eBin fDiv (eVar 0) (eBin fAdd (eVar 1) (eC (.int 1)))) (eVar 1)) (eC (.int 9)))) [some (.int n), none] μ = .ok (.lst ((List.range m).map fun k : Nat => .str (pickS "eatonihsr" (n / ((k : Int) + 1) + k)))) μ := by
    refine eComp_map (fun k : Nat => D.int (0 + (k : Nat))) (fun k : Nat => D.str (pickS "eatonihsr" (n / ((k : Int) + 1) + k))) hr (fun k hk μ' => ⟨_, rfl, rfl, ?_⟩) (fun _ _ => rfl) (by rw [List.length_range]; have : cap = 1000000 := rfl; omega)
    have hk := List.mem_range.mp hk
    have e1 : fDiv (.int n) (.int ((k : Int) + 1)) μ' = .ok (.int (n / ((k : Int) + 1))) μ' := div_sm (by omega) (by omega)
    have e2 := pick_ix (z := "eatonihsr") (i := n / ((k : Int) + 1) + k) (m := 9) (μ := μ') rfl (by decide +kernel) (by decide +kernel)
    simp only [wipeF_cons, wipeF_nil, List.set_cons_succ, List.set_cons_zero, eBin_ap, eC_ap, R.bind_ok, eVar0, eVar1, fAdd_int, Int.zero_add, e1, fMod_int]
    exact e2
  simp only [sRet_ap, eMeth_ap, eC_ap, R.bind_ok, tyD_str, if_true, aCons_ap, hc, aNil_ap, j1, R.then_ok]
end G81

namespace G81
open Mp PySem L2
/-! ### the law's rules -/
def big40 : Int := 10 ^ 40
theorem pow40 (μ : Sto) : fPow (.int 10) (.int 40) μ = .ok (.int big40) μ := by
  rw [fPow_int, if_pos (show CPow 10 40 from ⟨by decide, by decide, by decide⟩)]
  rfl
theorem big40_pos : 0 < big40 := by decide +kernel
theorem ix_two {a b : D} {i : Int} {μ : Sto} : fIx (.lst [a, b]) (.int (i % 2)) μ = .ok (if i % 2 = 0 then a else b) μ := by
  have h : i % 2 = 0 ∨ i % 2 = 1 := by omega
  rcases h with h | h
  · rw [h]; exact ix_lst (atI_nat (j := 0) rfl)
  · rw [h]; exact ix_lst (atI_nat (j := 1) rfl)
noncomputable abbrev eName : EM := (eMeth "str" fJoin (eC (.str "")) (aCons (eComp (iRange (aCons (eBin fAdd (eC (.int 1)) (eBin fMod (eBin fDiv (eVar 2) (eC (.int 9))) (eC (.int 8)))) aNil)) (gName 4) [4] tYes (eBin fIx (eC (.str "QXYZABMN")) (eBin fMod (eBin fAdd (eBin fDiv (eVar 2) (eBin fAdd (eVar 4) (eC (.int 1)))) (eBin fMul (eVar 4) (eVar 4))) (eC (.int 8))))) aNil))
theorem name_ok (n : Int) (d0 d1 : Option D) (μ : Sto) : ∃ w, eName [d0, d1, some (.int n), none, none] μ = .ok (.str w) μ ∧ Nm 8 w := by
  obtain ⟨m, hm8, em⟩ : ∃ m : Nat, m ≤ 8 ∧ 1 + n / 9 % 8 = (m : Int) := ⟨(1 + n / 9 % 8).toNat, by omega, by omega⟩
  obtain ⟨j1, j2⟩ := picks (z := "QXYZABMN") (n := m) (μ := μ) (fun k : Nat => n / ((k : Int) + 1) + k * k) (by decide +kernel) (show ∀ c ∈ TL.tl "QXYZABMN", c < 128 by decide +kernel) hm8
  refine ⟨_, ?_, j2⟩
  have hr : iRange (aCons (eBin fAdd (eC (.int 1)) (eBin fMod (eBin fDiv (eVar 2) (eC (.int 9))) (eC (.int 8)))) aNil) [d0, d1, some (.int n), none, none] μ = .ok (rangeD 0 m) μ := by
    have e1 : fDiv (.int n) (.int 9) μ = .ok (.int (n / 9)) μ := div_sm (by decide) (by decide)
    have z := range_ok (n := (m : Int)) (as := aCons (eBin fAdd (eC (.int 1)) (eBin fMod (eBin fDiv (eVar 2) (eC (.int 9))) (eC (.int 8)))) aNil) (φ := [d0, d1, some (.int n), none, none]) (μ := μ) (by
      rw [← em]
      simp only [aCons_ap, eBin_ap, eC_ap, R.bind_ok, eVar2, e1, fMod_int, fAdd_int, aNil_ap]
      rfl) (by omega) (by have : cap = 1000000 := rfl; omega)
    rwa [Int.toNat_natCast] at z
  have hc : eComp (iRange (aCons (eBin fAdd (eC (.int 1)) (eBin fMod (eBin fDiv (eVar 2) (eC (.int 9))) (eC (.int 8)))) aNil)) (gName 4) [4] tYes (eBin fIx (eC (.str "QXYZABMN")) (eBin fMod (eBin fAdd (eBin fDiv (eVar 2) (eBin fAdd (eVar 4) (eC (.int 1)))) (eBin fMul (eVar 4) (eVar 4))) (eC (.int 8)))) [d0, d1, some (.int n), none, none] μ = .ok (.lst ((List.range m).map fun k : Nat => .str (pickS "QXYZABMN" (n / ((k : Int) + 1) + k * k)))) μ := by
    refine eComp_map (fun k : Nat => D.int (0 + (k : Nat))) (fun k : Nat => D.str (pickS "QXYZABMN" (n / ((k : Int) + 1) + k * k))) hr (fun k hk μ' => ⟨_, rfl, rfl, ?_⟩) (fun _ _ => rfl) (by rw [List.length_range]; have : cap = 1000000 := rfl; omega)
    have hk := List.mem_range.mp hk
    have e1 : fDiv (.int n) (.int ((k : Int) + 1)) μ' = .ok (.int (n / ((k : Int) + 1))) μ' := div_sm (by omega) (by omega)
    have e3 : fMul (.int (k : Int)) (.int (k : Int)) μ' = .ok (.int ((k : Int) * k)) μ' := mul_ok (a := 8) (b := 8) (by omega) (by omega) (by decide) (by decide) (by decide)
    have e2 := pick_ix (z := "QXYZABMN") (i := n / ((k : Int) + 1) + k * k) (m := 8) (μ := μ') rfl (by decide +kernel) (by decide +kernel)
    simp only [wipeF_cons, wipeF_nil, List.set_cons_succ, List.set_cons_zero, eBin_ap, eC_ap, R.bind_ok, eVar2, eVar4, fAdd_int, Int.zero_add, e1, e3, fMod_int]
    exact e2
  simp only [eMeth_ap, eC_ap, R.bind_ok, tyD_str, if_true, aCons_ap, hc, aNil_ap, j1]
noncomputable abbrev lpHeads : SM := (sSeq (sSet 2 (eBin fMod (eVar 2) (eBin fPow (eC (.int 10)) (eC (.int 40)))))
  (sSeq (sSet 3 eName)
  (sSeq (sIf (tVal (eBin cEq (eBin fMod (eVar 2) (eC (.int 3))) (eC (.int 0))))
  (sSet 3 (eBin fAdd (eBin fAdd (eVar 3) (eC (.str "_"))) (eFn fStr (aCons (eBin fMod (eBin fDiv (eVar 2) (eC (.int 3))) (eBin fIx (eLst (aCons (eC (.int 10)) (aCons (eC (.int 10000)) aNil))) (eBin fMod (eBin fDiv (eVar 2) (eC (.int 70))) (eC (.int 2))))) aNil))))
  sNext)
  (sIf (tVal (eBin cNotIn (eVar 3) (eVar 1)))
  (sDrop (eMeth "list" fAppend (eVar 1) (aCons (eVar 3) aNil)))
  sNext))))
theorem heads_ok (cells : List Int) (hne : cells ≠ []) (hl : cells.length ≤ 1000) (μ : Sto) : ∃ hs : List Str, m__law_heads [.lst (cells.map .int)] μ = .ok (.lst (hs.map .str)) μ ∧ hs ≠ [] ∧ hs.length ≤ cells.length ∧ ∀ h ∈ hs, Nm 13 h := by
  have hcap : cap = 1000000 := rfl
  obtain ⟨φ', μ', e, acc, rfl, rfl, h1, h2, h3⟩ := forL_ind (g := gName 2) (kill := [2, 3]) (b := lpHeads)
    (fun i φ μ' => ∃ acc : List Str, φ = [some (.lst (cells.map .int)), some (.ref μ.length), none, none, none] ∧ μ' = μ ++ [Ob.lst (acc.map D.str)] ∧ acc.length ≤ i ∧ (0 < i → acc ≠ []) ∧ ∀ h ∈ acc, Nm 13 h)
    (cells.map .int) 0 [some (.lst (cells.map .int)), some (.ref μ.length), none, none, none] (μ ++ [Ob.lst []]) ⟨[], rfl, rfl, Nat.le_refl _, fun h => absurd h (by decide), fun h z => by cases z⟩ (by
      rintro i d φ μ' hi ⟨acc, rfl, rfl, a1, a2, a3⟩
      rw [Nat.zero_add] at a1 a2 ⊢
      rw [List.getElem?_map] at hi
      obtain ⟨c, hc, rfl⟩ := Option.map_eq_some_iff.mp hi
      have hic : i < cells.length := (List.getElem?_eq_some_iff.mp hc).1
      obtain ⟨w, w1, w2⟩ := name_ok (c % big40) (some (.lst (cells.map .int))) (some (.ref μ.length)) (μ ++ [Ob.lst (acc.map D.str)])
      -- the name with its figures
      obtain ⟨v, v1, v2⟩ : ∃ v : Str, (sIf (tVal (eBin cEq (eBin fMod (eVar 2) (eC (.int 3))) (eC (.int 0))))
          (sSet 3 (eBin fAdd (eBin fAdd (eVar 3) (eC (.str "_"))) (eFn fStr (aCons (eBin fMod (eBin fDiv (eVar 2) (eC (.int 3))) (eBin fIx (eLst (aCons (eC (.int 10)) (aCons (eC (.int 10000)) aNil))) (eBin fMod (eBin fDiv (eVar 2) (eC (.int 70))) (eC (.int 2))))) aNil)))) sNext)
          [some (.lst (cells.map .int)), some (.ref μ.length), some (.int (c % big40)), some (.str w), none] (μ ++ [Ob.lst (acc.map D.str)]) = .nx [some (.lst (cells.map .int)), some (.ref μ.length), some (.int (c % big40)), some (.str v), none] (μ ++ [Ob.lst (acc.map D.str)]) ∧ Nm 13 v := by
        generalize c % big40 = n at *
        generalize (μ ++ [Ob.lst (acc.map D.str)]) = μ' at *
        have hif : ∀ b : Bool, (tVal (eBin cEq (eBin fMod (eVar 2) (eC (.int 3))) (eC (.int 0)))) [some (.lst (cells.map .int)), some (.ref μ.length), some (.int n), some (.str w), none] μ' = .ok (decide (n % 3 = 0)) μ' := fun _ => by
          simp only [tVal_ap, eBin_ap, eVar2, R.bind_ok, eC_ap, fMod_int]
          rw [if_pos (show (0 : Int) < 3 by decide), R.bind_ok, cEq_int]
          rfl
        rw [sIf_ap, hif true, R.then_ok]
        by_cases h0 : n % 3 = 0
        · rw [decide_eq_true h0, if_pos rfl]
          have e1 : fDiv (.int n) (.int 3) μ' = .ok (.int (n / 3)) μ' := div_sm (by decide) (by decide)
          have e2 : fDiv (.int n) (.int 70) μ' = .ok (.int (n / 70)) μ' := div_sm (by decide) (by decide)
          obtain ⟨q, q0, qe⟩ : ∃ q : Int, (0 < q ∧ q ≤ 10000) ∧ fIx (.lst [.int 10, .int 10000]) (.int (n / 70 % 2)) μ' = .ok (.int q) μ' := by
            refine ⟨if n / 70 % 2 = 0 then 10 else 10000, ?_, ?_⟩
            · split <;> decide
            · rw [ix_two]
              split <;> rfl
          have b0 : 0 ≤ n / 3 % q := Int.emod_nonneg _ (by omega)
          have b1 : n / 3 % q < 10 ^ 4 := Int.lt_of_lt_of_le (Int.emod_lt_of_pos _ q0.1) q0.2
          have hn := num_nm (k := 4) b0 (by decide) b1
          have hs := str_ok (k := 4) (μ := μ') b0 b1 (by decide)
          have hu : Nm 1 "_" := ⟨show ∀ c ∈ TL.tl "_", c < 128 by decide +kernel, by decide +kernel⟩
          have l1 : w.length + ("_" : Str).length ≤ cap := by
            have := w2.2
            have e : ("_" : Str).length = 1 := rfl
            omega
          have h9 := w2.app hu
          have l2 : (w ++ "_").length + (Str.ofString (toString (n / 3 % q))).length ≤ cap := by have := h9.2; have := hn.2; omega
          refine ⟨w ++ "_" ++ Str.ofString (toString (n / 3 % q)), ?_, h9.app hn⟩
          simp only [sSet_ap, eBin_ap, eVar3, R.bind_ok, eC_ap, fAdd_str, if_pos l1, eFn_ap, aCons_ap, eVar2, e1, eLst_ap, aNil_ap, e2, fMod_int]
          rw [if_pos (show (0 : Int) < 2 by decide), R.bind_ok, qe, R.bind_ok, fMod_int, if_pos q0.1, R.bind_ok, R.bind_ok, hs, R.bind_ok, fAdd_str, if_pos l2]
          rfl
        · rw [decide_eq_false h0, if_neg Bool.false_ne_true]
          exact ⟨w, rfl, w2.up (by decide)⟩
      refine ⟨_, [some (.lst (cells.map .int)), some (.ref μ.length), some (.int (c % big40)), some (.str v), none], μ ++ [Ob.lst ((if v ∈ acc then acc else acc ++ [v]).map D.str)], rfl, ?_, if v ∈ acc then acc else acc ++ [v], rfl, rfl, ?_, ?_, ?_⟩
      · have hset : (sSet 2 (eBin fMod (eVar 2) (eBin fPow (eC (.int 10)) (eC (.int 40))))) [some (.lst (cells.map .int)), some (.ref μ.length), some (.int c), none, none] (μ ++ [Ob.lst (acc.map D.str)]) = .nx [some (.lst (cells.map .int)), some (.ref μ.length), some (.int (c % big40)), none, none] (μ ++ [Ob.lst (acc.map D.str)]) := by
          simp only [sSet_ap, eBin_ap, eVar2, R.bind_ok, eC_ap, pow40, fMod_int, if_pos big40_pos]
          rfl
        show lpHeads [some (.lst (cells.map .int)), some (.ref μ.length), some (.int c), none, none] _ = _
        unfold lpHeads
        rw [sSeq_ap, hset, SR.seq_nx, sSeq_ap, sSet_ap, w1, R.then_ok, SR.seq_nx, sSeq_ap]
        show (sIf _ _ _ [some (.lst (cells.map .int)), some (.ref μ.length), some (.int (c % big40)), some (.str w), none] _).seq _ = _
        rw [v1, SR.seq_nx, sIf_ap, tVal_ap, eBin_ap, eVar3, R.bind_ok, eVar1, R.bind_ok, notin_end, R.bind_ok, R.then_ok]
        by_cases hm : v ∈ acc
        · rw [if_pos hm, decide_eq_true hm]
          rfl
        · rw [if_neg hm, decide_eq_false hm, if_pos (show (!false) = true from rfl), sDrop_ap, eMeth_ap, eVar1, R.bind_ok, tyD_end, if_pos rfl, aCons_ap, eVar3, R.bind_ok, aNil_ap, R.bind_ok, R.bind_ok, append_end (by rw [List.length_map]; omega), List.map_append]
          rfl
      · by_cases hm : v ∈ acc
        · rw [if_pos hm]; omega
        · rw [if_neg hm, List.length_append, List.length_singleton]; omega
      · intro _
        by_cases hm : v ∈ acc
        · rw [if_pos hm]; exact List.ne_nil_of_mem hm
        · rw [if_neg hm]; simp
      · intro h hh
        by_cases hm : v ∈ acc
        · rw [if_pos hm] at hh; exact a3 h hh
        · rw [if_neg hm] at hh
          rcases List.mem_append.mp hh with hh | hh
          · exact a3 h hh
          · rw [List.mem_singleton] at hh
            subst hh
            exact v2)
  rw [Nat.zero_add, List.length_map] at h1 h2
  refine ⟨acc, ?_, h2 (List.length_pos_iff.mpr hne), h1, h3⟩
  refine mDef_rt [.dead] ?_ (by simp)
  show b__law_heads [some (.lst (cells.map .int)), none, none, none, none] μ = _
  unfold b__law_heads
  simp only [sSeq_ap, sSet_ap, eNew_ap, aNil_ap, R.bind_ok, R.then_ok, SR.seq_nx, List.set_cons_succ, List.set_cons_zero, sFor_ap, iOf_ap, eVar0, items_lst, wipeF_cons, wipeF_nil]
  rw [e, SR.seq_nx, sSeq_ap, sFz_end rfl, SR.seq_nx]
  simp only [List.set_cons_succ, List.set_cons_zero, sRet_ap, eVar1, R.then_ok]
end G81

namespace G81
open Mp PySem L2
def big60 : Int := 10 ^ 60
def big20 : Int := 10 ^ 20
theorem pow60 (μ : Sto) : fPow (.int 10) (.int 60) μ = .ok (.int big60) μ := by
  rw [fPow_int, if_pos (show CPow 10 60 from ⟨by decide, by decide, by decide⟩)]
  rfl
theorem pow20 (μ : Sto) : fPow (.int 10) (.int 20) μ = .ok (.int big20) μ := by
  rw [fPow_int, if_pos (show CPow 10 20 from ⟨by decide, by decide, by decide⟩)]
  rfl
theorem ix_four {a b c d : Int} {i : Int} {μ : Sto} : ∃ q, fIx (.lst [.int a, .int b, .int c, .int d]) (.int (i % 4)) μ = .ok (.int q) μ ∧ (q = a ∨ q = b ∨ q = c ∨ q = d) := by
  have h : i % 4 = 0 ∨ i % 4 = 1 ∨ i % 4 = 2 ∨ i % 4 = 3 := by omega
  rcases h with h | h | h | h <;> rw [h]
  · exact ⟨a, ix_lst (atI_nat (j := 0) rfl), .inl rfl⟩
  · exact ⟨b, ix_lst (atI_nat (j := 1) rfl), .inr (.inl rfl)⟩
  · exact ⟨c, ix_lst (atI_nat (j := 2) rfl), .inr (.inr (.inl rfl))⟩
  · exact ⟨d, ix_lst (atI_nat (j := 3) rfl), .inr (.inr (.inr rfl))⟩
theorem ix_mod {hs : List Str} (hne : hs ≠ []) (i : Int) (μ : Sto) : ∃ w ∈ hs, fIx (.lst (hs.map .str)) (.int (i % (hs.length : Int))) μ = .ok (.str w) μ := by
  have hp : 0 < hs.length := List.length_pos_iff.mpr hne
  have h1 : 0 ≤ i % (hs.length : Int) := Int.emod_nonneg _ (by omega)
  have h2 : i % (hs.length : Int) < (hs.length : Int) := Int.emod_lt_of_pos _ (by omega)
  have hk : (i % (hs.length : Int)).toNat < hs.length := by omega
  refine ⟨hs[(i % (hs.length : Int)).toNat], List.getElem_mem hk, ix_lst ?_⟩
  rw [atI_nn (k := (i % (hs.length : Int)).toNat) (by omega) (by rw [List.length_map]; exact hk), List.getElem_map]
/-- a rule of the law: name, parts, cost -/
structure R3 where
  n : Str
  p : List Str
  c : Int
def R3.d (r : R3) : D := .tup [.str r.n, .tup (r.p.map .str), .int r.c]
structure R3.Ok (r : R3) : Prop where
  n : Nm 13 r.n
  l : r.p.length ≤ 4
  p : ∀ w ∈ r.p, Nm 13 w
  c0 : 0 ≤ r.c
  c1 : r.c < 10 ^ 60
noncomputable abbrev lpRl : SM := (sSeq (sSet 6 (eBin fMod (eBin fDiv (eBin fAdd (eVar 0) (eBin fMul (eVar 5) (eC (.int 7919)))) (eBin fAdd (eC (.int 11)) (eVar 5))) (eBin fPow (eC (.int 10)) (eC (.int 20)))))
  (sDrop (eMeth "list" fAppend (eVar 4) (aCons (eBin fIx (eLst (aCons (eFn m__law_word (aCons (eBin fDiv (eVar 6) (eC (.int 2))) aNil)) (aCons (eBin fIx (eVar 2) (eBin fMod (eBin fDiv (eVar 6) (eC (.int 2))) (eFn fLen (aCons (eVar 2) aNil)))) aNil))) (eBin fMod (eVar 6) (eC (.int 2)))) aNil))))
theorem rule_ok (c : Int) (k : Nat) {hs : List Str} (hne : hs ≠ []) (hg : ∀ h ∈ hs, Nm 13 h) (μ : Sto) : ∃ r : R3, m__law_rule [.int c, .int (k : Int), .lst (hs.map .str)] μ = .ok r.d μ ∧ r.Ok := by
  have hcap : cap = 1000000 := rfl
  generalize hn : c % big40 = n
  have hp : 0 < hs.length := List.length_pos_iff.mpr hne
  have hp' : (0 : Int) < (hs.length : Int) := by omega
  obtain ⟨nm0, m0, e0⟩ := ix_mod hne (n / 7) μ
  obtain ⟨nm1, m1, e1⟩ : ∃ w ∈ hs, (sIf (tVal (eBin cLt (eVar 1) (eFn fLen (aCons (eVar 2) aNil)))) (sSet 3 (eBin fIx (eVar 2) (eVar 1))) sNext) [some (.int n), some (.int (k : Int)), some (.lst (hs.map .str)), some (.str nm0), none, none, none] μ = .nx [some (.int n), some (.int (k : Int)), some (.lst (hs.map .str)), some (.str w), none, none, none] μ := by
    simp only [sIf_ap, tVal_ap, eBin_ap, eVar1, R.bind_ok, eFn_ap, aCons_ap, eVar2, aNil_ap, fLen_lst, List.length_map, cmpI_int, R.then_ok]
    by_cases h : k < hs.length
    · have h' : (k : Int) < hs.length := by omega
      refine ⟨hs[k], List.getElem_mem h, ?_⟩
      rw [decide_eq_true h', if_pos rfl, sSet_ap, eBin_ap, eVar2, R.bind_ok, eVar1, R.bind_ok, ix_lst (atI_nn rfl (by rw [List.length_map]; exact h)), R.then_ok, List.getElem_map]
      rfl
    · have h' : ¬ (k : Int) < hs.length := by omega
      exact ⟨nm0, m0, by rw [decide_eq_false h']; rfl⟩
  obtain ⟨φ', μ', e, acc, rfl, rfl, h1, h3⟩ := forL_ind (g := gName 5) (kill := [5, 6]) (b := lpRl)
    (fun i φ μ' => ∃ acc : List Str, φ = [some (.int n), some (.int (k : Int)), some (.lst (hs.map .str)), some (.str nm1), some (.ref μ.length), none, none] ∧ μ' = μ ++ [Ob.lst (acc.map D.str)] ∧ acc.length ≤ i ∧ ∀ h ∈ acc, Nm 13 h)
    (rangeD 0 (n % 4).toNat) 0 [some (.int n), some (.int (k : Int)), some (.lst (hs.map .str)), some (.str nm1), some (.ref μ.length), none, none] (μ ++ [Ob.lst []]) ⟨[], rfl, rfl, Nat.le_refl _, fun h z => by cases z⟩ (by
      rintro i d φ μ' hi ⟨acc, rfl, rfl, a1, a3⟩
      rw [Nat.zero_add] at a1 ⊢
      obtain ⟨hi4, rfl⟩ := range_get hi
      have hi5 : i < 4 := by omega
      generalize hone : (n + (i : Int) * 7919) / (11 + (i : Int)) % big20 = one
      have q1 : fMul (.int (i : Int)) (.int 7919) (μ ++ [Ob.lst (acc.map D.str)]) = .ok (.int ((i : Int) * 7919)) _ := mul_ok (a := 8) (b := 16) (by omega) (by decide) (by decide) (by decide) (by decide)
      have q2 : fDiv (.int (n + (i : Int) * 7919)) (.int (11 + (i : Int))) (μ ++ [Ob.lst (acc.map D.str)]) = .ok (.int ((n + (i : Int) * 7919) / (11 + (i : Int)))) _ := div_sm (by omega) (by omega)
      have q3 : fDiv (.int one) (.int 2) (μ ++ [Ob.lst (acc.map D.str)]) = .ok (.int (one / 2)) _ := div_sm (by decide) (by decide)
      obtain ⟨w, w1, w2⟩ := word_ok (one / 2) (μ ++ [Ob.lst (acc.map D.str)])
      obtain ⟨v, v1, v2⟩ := ix_mod hne (one / 2) (μ ++ [Ob.lst (acc.map D.str)])
      obtain ⟨x, x1, x2⟩ : ∃ x, fIx (.lst [.str w, .str v]) (.int (one % 2)) (μ ++ [Ob.lst (acc.map D.str)]) = .ok (.str x) (μ ++ [Ob.lst (acc.map D.str)]) ∧ Nm 13 x := by
        rw [ix_two]
        split
        · exact ⟨w, rfl, w2.up (by decide)⟩
        · exact ⟨v, rfl, hg v v1⟩
      refine ⟨_, [some (.int n), some (.int (k : Int)), some (.lst (hs.map .str)), some (.str nm1), some (.ref μ.length), some (.int (i : Int)), some (.int one)], μ ++ [Ob.lst ((acc ++ [x]).map D.str)], rfl, ?_, acc ++ [x], rfl, rfl, ?_, ?_⟩
      · show lpRl [some (.int n), some (.int (k : Int)), some (.lst (hs.map .str)), some (.str nm1), some (.ref μ.length), some (.int (i : Int)), none] _ = _
        unfold lpRl
        simp only [sSeq_ap, sSet_ap, eBin_ap, eVar0, R.bind_ok, eVar5, eC_ap, q1, fAdd_int, q2, pow20, fMod_int]
        rw [if_pos (show (0 : Int) < big20 by decide +kernel), R.then_ok, SR.seq_nx, hone]
        show (sDrop _ [some (.int n), some (.int (k : Int)), some (.lst (hs.map .str)), some (.str nm1), some (.ref μ.length), some (.int (i : Int)), some (.int one)] _) = _
        simp only [sDrop_ap, eMeth_ap, eVar4, R.bind_ok, tyD_end, if_true, aCons_ap, eBin_ap, eLst_ap, eFn_ap, eVar6, eC_ap, q3, aNil_ap, w1, eVar2, fLen_lst, List.length_map, fMod_int]
        rw [if_pos hp']
        simp only [R.bind_ok, v2]
        rw [if_pos (show (0 : Int) < 2 by decide)]
        simp only [R.bind_ok, x1]
        rw [append_end (by rw [List.length_map]; omega), List.map_append]
        rfl
      · rw [List.length_append, List.length_singleton]; omega
      · intro h hh
        rcases List.mem_append.mp hh with hh | hh
        · exact a3 h hh
        · rw [List.mem_singleton] at hh
          subst hh
          exact x2)
  rw [Nat.zero_add, range_len] at h1
  have n0 : 0 ≤ n := by rw [← hn]; exact Int.emod_nonneg _ (by decide +kernel)
  have n1 : n < big40 := by rw [← hn]; exact Int.emod_lt_of_pos _ big40_pos
  have t1 : fDiv (.int n) (.int 50) (μ ++ [.dead]) = .ok (.int (n / 50)) _ := div_sm (by decide) (by decide)
  have t2 : fDiv (.int n) (.int 5) (μ ++ [.dead]) = .ok (.int (n / 5)) _ := div_sm (by decide) (by decide)
  have t3 : fMul (.int (n + 1)) (.int (n + 3)) (μ ++ [.dead]) = .ok (.int ((n + 1) * (n + 3))) (μ ++ [.dead]) := by
    have hb : big40 + 3 < 2 ^ 200 := by decide +kernel
    have hx : (2 : Int) ^ 200 = ((2 ^ 200 : Nat) : Int) := by norm_cast
    rw [hx] at hb
    exact mul_ok (a := 200) (b := 200) (by omega) (by omega) (by decide) (by decide) (by decide)
  obtain ⟨cst, c1, c2⟩ := ix_four (a := 0) (b := 0) (c := n / 50 % 12) (d := (n + 1) * (n + 3) % big60) (i := n / 5) (μ := μ ++ [.dead])
  have c3 : 0 ≤ cst ∧ cst < 10 ^ 60 := by
    rcases c2 with rfl | rfl | rfl | rfl
    · exact ⟨by decide, by decide +kernel⟩
    · exact ⟨by decide, by decide +kernel⟩
    · have : (12 : Int) < 10 ^ 60 := by decide +kernel
      omega
    · exact ⟨Int.emod_nonneg _ (by decide +kernel), Int.emod_lt_of_pos _ (show 0 < big60 by decide +kernel)⟩
  refine ⟨⟨nm1, acc, cst⟩, ?_, ⟨hg nm1 m1, by show acc.length ≤ 4; omega, h3, c3.1, c3.2⟩⟩
  refine mDef_rt [.dead] ?_ (by show (true && (los _ (acc.map .str) && (true && true))) = true; rw [los_strs]; rfl)
  show b__law_rule [some (.int c), some (.int (k : Int)), some (.lst (hs.map .str)), none, none, none, none] μ = _
  unfold b__law_rule
  have s1 : fDiv (.int n) (.int 7) μ = .ok (.int (n / 7)) _ := div_sm (by decide) (by decide)
  rw [sSeq_ap, sSet_ap, eBin_ap, eVar0, R.bind_ok, eBin_ap, eC_ap, R.bind_ok, eC_ap, R.bind_ok, pow40, R.bind_ok, fMod_int, if_pos big40_pos, R.then_ok, SR.seq_nx, hn]
  show sSeq _ _ [some (.int n), some (.int (k : Int)), some (.lst (hs.map .str)), none, none, none, none] μ = _
  simp only [sSeq_ap, sSet_ap, eBin_ap, eVar2, R.bind_ok, eVar0, eC_ap, s1, eFn_ap, aCons_ap, aNil_ap, fLen_lst, List.length_map, fMod_int]
  rw [if_pos hp', R.bind_ok, e0, R.then_ok, SR.seq_nx]
  show sSeq _ _ [some (.int n), some (.int (k : Int)), some (.lst (hs.map .str)), some (.str nm0), none, none, none] μ = _
  rw [sSeq_ap, e1, SR.seq_nx, sSeq_ap, sSet_ap, eNew_ap, aNil_ap, R.bind_ok, R.then_ok, SR.seq_nx, sSeq_ap, sFor_ap]
  have hr : iRange (aCons (eBin fMod (eVar 0) (eC (.int 4))) aNil) [some (.int n), some (.int (k : Int)), some (.lst (hs.map .str)), some (.str nm1), some (.ref μ.length), none, none] (μ ++ [Ob.lst []]) = .ok (rangeD 0 (n % 4).toNat) (μ ++ [Ob.lst []]) := range_ok (by
    simp only [aCons_ap, eBin_ap, eVar0, R.bind_ok, eC_ap, fMod_int, aNil_ap]
    rfl) (by omega) (by omega)
  show ((iRange _ [some (.int n), some (.int (k : Int)), some (.lst (hs.map .str)), some (.str nm1), some (.ref μ.length), none, none] (μ ++ [Ob.lst []])).then _ _).seq _ = _
  rw [hr, R.then_ok]
  show (forL _ [5, 6] _ _ [some (.int n), some (.int (k : Int)), some (.lst (hs.map .str)), some (.str nm1), some (.ref μ.length), none, none] (μ ++ [Ob.lst []])).seq _ = _
  rw [e, SR.seq_nx, sSeq_ap, sFz_end rfl, SR.seq_nx]
  simp only [List.set_cons_succ, List.set_cons_zero, sRet_ap, eTup_ap, aCons_ap, eVar3, R.bind_ok, eFn_ap, eVar4, aNil_ap, fTuple_lst, eBin_ap, eLst_ap, eC_ap, eVar0, t1, t2, t3, pow60, fAdd_int, fMod_int]
  rw [if_pos (show (0 : Int) < 12 by decide)]
  simp only [R.bind_ok, t3, fMod_int]
  rw [if_pos (show (0 : Int) < big60 by decide +kernel)]
  simp only [R.bind_ok, t2, fMod_int]
  rw [if_pos (show (0 : Int) < 4 by decide)]
  simp only [R.bind_ok, c1]
  rfl
end G81

namespace G81
open Mp PySem L2
/-- the two-place end of a list that is read -/
theorem sl_rol14 (ns : List Int) (μ : Sto) : ∃ l : List Int, fSl (.rol (ns.map .int)) (some 1) (some 4) μ = .ok (.lst (l.map .int)) μ ∧ l.length ≤ 4 := by
  refine ⟨(ns.drop (HT.sIx ns.length 0 (some 1))).take (HT.sIx ns.length ns.length (some 4) - HT.sIx ns.length 0 (some 1)), ?_, ?_⟩
  · show (match lstV μ (.rol (ns.map .int)) with | some xs => R.ok (D.lst (cutD xs (some 1) (some 4))) μ | none => .no) = _
    rw [lstV_rol]
    dsimp only
    unfold cutD
    rw [List.length_map, ← List.map_drop, ← List.map_take]
  · have i1 : HT.sIx ns.length 0 (some 1) = min 1 ns.length := HT.sIx_nat ns.length 0 1
    have i4 : HT.sIx ns.length ns.length (some 4) = min 4 ns.length := HT.sIx_nat ns.length ns.length 4
    rw [List.length_take, i1, i4]
    omega
theorem rules_ok (ns : List Int) (μ : Sto) : ∃ rs : List R3, m__law_rules [.rol (ns.map .int)] μ = .ok (.lst (rs.map R3.d)) μ ∧ rs.length ≤ 10 ∧ ∀ r ∈ rs, r.Ok := by
  have hcap : cap = 1000000 := rfl
  obtain ⟨l, l1, l2⟩ := sl_rol14 ns μ
  obtain ⟨hs, h1, h2, h3, h4⟩ := heads_ok (l ++ [ns.getD 0 0]) (by simp) (by rw [List.length_append, List.length_singleton]; omega) μ
  rw [List.length_append, List.length_singleton] at h3
  have h0 := cell_at_eq ns 0 μ
  have hN : ∃ N : Nat, N ≤ 10 ∧ (hs.length : Int) + ns.getD 0 0 / 8 % 6 = (N : Int) := ⟨((hs.length : Int) + ns.getD 0 0 / 8 % 6).toNat, by omega, by omega⟩
  obtain ⟨N, hN1, hN2⟩ := hN
  obtain ⟨φ', μ', e, acc, rfl, rfl, a1, a2⟩ := forL_ind (g := gName 3) (kill := [3]) (b := sDrop (eMeth "list" fAppend (eVar 2) (aCons (eFn m__law_rule (aCons (eFn m__law_cell_at (aCons (eVar 0) (aCons (eBin fAdd (eC (.int 4)) (eVar 3)) aNil))) (aCons (eVar 3) (aCons (eVar 1) aNil)))) aNil)))
    (fun i φ μ' => ∃ acc : List R3, φ = [some (.rol (ns.map .int)), some (.lst (hs.map .str)), some (.ref μ.length), none] ∧ μ' = μ ++ [Ob.lst (acc.map R3.d)] ∧ acc.length ≤ i ∧ ∀ r ∈ acc, r.Ok)
    (rangeD 0 N) 0 [some (.rol (ns.map .int)), some (.lst (hs.map .str)), some (.ref μ.length), none] (μ ++ [Ob.lst []]) ⟨[], rfl, rfl, Nat.le_refl _, fun h z => by cases z⟩ (by
      rintro i d φ μ' hi ⟨acc, rfl, rfl, a1, a3⟩
      rw [Nat.zero_add] at a1 ⊢
      obtain ⟨hi4, rfl⟩ := range_get hi
      have hc := cell_at_eq ns (4 + i) (μ ++ [Ob.lst (acc.map R3.d)])
      rw [show ((4 + i : Nat) : Int) = 4 + (i : Int) by omega] at hc
      obtain ⟨r, r1, r2⟩ := rule_ok (ns.getD (4 + i) 0) i h2 h4 (μ ++ [Ob.lst (acc.map R3.d)])
      refine ⟨_, [some (.rol (ns.map .int)), some (.lst (hs.map .str)), some (.ref μ.length), some (.int (i : Int))], μ ++ [Ob.lst ((acc ++ [r]).map R3.d)], rfl, ?_, acc ++ [r], rfl, rfl, ?_, ?_⟩
      · show (sDrop _ [some (.rol (ns.map .int)), some (.lst (hs.map .str)), some (.ref μ.length), some (.int (i : Int))] _) = _
        simp only [sDrop_ap, eMeth_ap, eVar2, R.bind_ok, tyD_end, if_true, aCons_ap, eFn_ap, eVar0, eBin_ap, eC_ap, eVar3, fAdd_int, aNil_ap, hc, eVar1, r1]
        rw [append_end (by rw [List.length_map]; omega), List.map_append]
        rfl
      · rw [List.length_append, List.length_singleton]; omega
      · intro h hh
        rcases List.mem_append.mp hh with hh | hh
        · exact a3 h hh
        · rw [List.mem_singleton] at hh
          subst hh
          exact r2)
  rw [Nat.zero_add, range_len] at a1
  refine ⟨acc, ?_, by omega, a2⟩
  refine mDef_rt [.dead] ?_ (los_of fun x hx => by
    obtain ⟨r, _, rfl⟩ := List.mem_map.mp hx
    show (true && (los _ (r.p.map .str) && (true && true))) = true
    rw [los_strs]; rfl)
  show b__law_rules [some (.rol (ns.map .int)), none, none, none] μ = _
  unfold b__law_rules
  have hl : (l.map D.int).length + ([D.int (ns.getD 0 0)] : List D).length ≤ cap := by rw [List.length_map, List.length_singleton]; omega
  have hm : l.map D.int ++ [D.int (ns.getD 0 0)] = (l ++ [ns.getD 0 0]).map D.int := by rw [List.map_append]; rfl
  have h0 : m__law_cell_at [.rol (ns.map .int), .int 0] μ = .ok (.int (ns.getD 0 0)) μ := h0
  have h0' : m__law_cell_at [.rol (ns.map .int), .int 0] (μ ++ [Ob.lst []]) = .ok (.int (ns.getD 0 0)) (μ ++ [Ob.lst []]) := cell_at_eq ns 0 _
  have hd8 : fDiv (.int (ns.getD 0 0)) (.int 8) (μ ++ [Ob.lst []]) = .ok (.int (ns.getD 0 0 / 8)) _ := div_sm (by decide) (by decide)
  simp only [sSeq_ap, sSet_ap, eFn_ap, aCons_ap, eBin_ap, eSl_ap, eVar0, R.bind_ok, oSome_ap, eC_ap, l1, eLst_ap, aNil_ap, h0, fAdd_lst, if_pos hl, hm, h1, R.then_ok, SR.seq_nx, List.set_cons_succ, List.set_cons_zero, eNew_ap, sFor_ap]
  have hr : iRange (aCons (eBin fAdd (eFn fLen (aCons (eVar 1) aNil)) (eBin fMod (eBin fDiv (eFn m__law_cell_at (aCons (eVar 0) (aCons (eC (.int 0)) aNil))) (eC (.int 8))) (eC (.int 6)))) aNil) [some (.rol (ns.map .int)), some (.lst (hs.map .str)), some (.ref μ.length), none] (μ ++ [Ob.lst []]) = .ok (rangeD 0 N) (μ ++ [Ob.lst []]) := by
    have z := range_ok (n := (N : Int)) (as := aCons (eBin fAdd (eFn fLen (aCons (eVar 1) aNil)) (eBin fMod (eBin fDiv (eFn m__law_cell_at (aCons (eVar 0) (aCons (eC (.int 0)) aNil))) (eC (.int 8))) (eC (.int 6)))) aNil) (φ := [some (.rol (ns.map .int)), some (.lst (hs.map .str)), some (.ref μ.length), none]) (μ := μ ++ [Ob.lst []]) (by
      rw [← hN2]
      simp only [aCons_ap, eBin_ap, eFn_ap, eVar1, R.bind_ok, aNil_ap, fLen_lst, List.length_map, eVar0, eC_ap, h0', hd8, fMod_int]
      rfl) (by omega) (by omega)
    rwa [Int.toNat_natCast] at z
  rw [hr]
  simp only [R.then_ok, wipeF_cons, wipeF_nil, List.set_cons_succ, List.set_cons_zero]
  rw [e, SR.seq_nx, sSeq_ap, sFz_end rfl, SR.seq_nx]
  simp only [List.set_cons_succ, List.set_cons_zero, sRet_ap, eVar2, R.then_ok]
/-! ### written -/
theorem lit_nm {k : Nat} {s : Str} (h1 : (TL.tl s).all (fun c => decide (c < 128)) = true) (h2 : (TL.tl s).length ≤ k) : Nm k s := ⟨fun c hc => by simpa using List.all_eq_true.mp h1 c hc, by rw [TL.len_tl]; exact h2⟩
theorem joinY_nm {y : Str} {ss : List Str} {j : Nat} (hy : Nm 1 y) (h : ∀ s ∈ ss, Nm j s) : Nm (ss.length * (j + 1)) (Txt.join y ss) := by
  refine ⟨Sg.join hy.1 fun s hs => (h s hs).1, ?_⟩
  rw [TL.join_eq]
  by_cases hne : ss = []
  · subst hne
    exact Nat.zero_le _
  · have e := join_len y ss hne
    have e1 := len_le_sum_n ss fun p hp => (h p hp).2
    have e2 : ss.length * y.length ≤ ss.length * 1 := Nat.mul_le_mul_left _ hy.2
    have e3 : ss.length * (j + 1) = ss.length * j + ss.length * 1 := Nat.mul_add _ _ _
    omega
theorem sp_nm : Nm 1 " " := lit_nm (by decide +kernel) (by decide +kernel)
theorem nl_nm : Nm 1 "\n" := lit_nm (by decide +kernel) (by decide +kernel)
noncomputable abbrev lpSh : SM := (sSeq (sSet 5 (eMeth "str" fJoin (eC (.str " ")) (aCons (eBin fAdd (eLst (aCons (eVar 2) (aCons (eC (.str "=")) aNil))) (eFn fList (aCons (eVar 3) aNil))) aNil)))
  (sSeq (sIf (tVal (eBin cGt (eVar 4) (eC (.int 0))))
  (sSet 5 (eBin fAdd (eBin fAdd (eVar 5) (eC (.str " : "))) (eFn fStr (aCons (eVar 4) aNil))))
  sNext)
  (sDrop (eMeth "list" fAppend (eVar 1) (aCons (eVar 5) aNil)))))
theorem shown_ok {rs : List R3} (hl : rs.length ≤ 10) (hg : ∀ r ∈ rs, r.Ok) (μ : Sto) : ∃ s, m__law_shown [.lst (rs.map R3.d)] μ = .ok (.str s) μ ∧ Nm 3000 s := by
  have hcap : cap = 1000000 := rfl
  obtain ⟨φ', μ', e, acc, rfl, rfl, a1, a2⟩ := forL_ind (g := gTup (gCons (gName 2) (gCons (gName 3) (gCons (gName 4) gNil)))) (kill := [2, 3, 4, 5]) (b := lpSh)
    (fun i φ μ' => ∃ acc : List Str, φ = [some (.lst (rs.map R3.d)), some (.ref μ.length), none, none, none, none] ∧ μ' = μ ++ [Ob.lst (acc.map D.str)] ∧ acc.length ≤ i ∧ ∀ r ∈ acc, Nm 200 r)
    (rs.map R3.d) 0 [some (.lst (rs.map R3.d)), some (.ref μ.length), none, none, none, none] (μ ++ [Ob.lst []]) ⟨[], rfl, rfl, Nat.le_refl _, fun h z => by cases z⟩ (by
      rintro i d φ μ' hi ⟨acc, rfl, rfl, a1, a3⟩
      rw [Nat.zero_add] at a1 ⊢
      rw [List.getElem?_map] at hi
      obtain ⟨r, hr, rfl⟩ := Option.map_eq_some_iff.mp hi
      have hir : i < rs.length := (List.getElem?_eq_some_iff.mp hr).1
      have ro := hg r (List.mem_of_getElem? hr)
      have hws : ∀ w ∈ r.n :: "=" :: r.p, Nm 13 w := fun w hw => by
        rcases List.mem_cons.mp hw with rfl | hw
        · exact ro.n
        · rcases List.mem_cons.mp hw with rfl | hw
          · exact lit_nm (by decide +kernel) (by decide +kernel)
          · exact ro.p w hw
      have hln := ro.l
      have hj0 := joinY_nm sp_nm hws
      have hj1 : Nm 84 (Txt.join " " (r.n :: "=" :: r.p)) := hj0.up (by
        rw [List.length_cons, List.length_cons]
        have : (r.p.length + 1 + 1) * (13 + 1) ≤ 6 * 14 := Nat.mul_le_mul (by omega) (by omega)
        omega)
      have hsum := len_le_sum_n (r.n :: "=" :: r.p) fun p hp => (hws p hp).2
      have hjoin : fJoin (.str " ") [.lst ((r.n :: "=" :: r.p).map .str)] (μ ++ [Ob.lst (acc.map D.str)]) = .ok (.str (Txt.join " " (r.n :: "=" :: r.p))) (μ ++ [Ob.lst (acc.map D.str)]) := join_lst (by
        have e1 : (" " : Str).length = 1 := rfl
        rw [e1]
        simp only [List.length_cons] at hsum ⊢
        omega)
      have hcat : ([D.str r.n, D.str "="] : List D).length + (r.p.map D.str).length ≤ cap := by
        rw [List.length_map]
        show 2 + r.p.length ≤ cap
        omega
      generalize hJ : Txt.join " " (r.n :: "=" :: r.p) = J at hj1 hjoin
      obtain ⟨v, v1, v2⟩ : ∃ v, (sIf (tVal (eBin cGt (eVar 4) (eC (.int 0)))) (sSet 5 (eBin fAdd (eBin fAdd (eVar 5) (eC (.str " : "))) (eFn fStr (aCons (eVar 4) aNil)))) sNext) [some (.lst (rs.map R3.d)), some (.ref μ.length), some (.str r.n), some (.tup (r.p.map .str)), some (.int r.c), some (.str J)] (μ ++ [Ob.lst (acc.map D.str)]) =
          .nx [some (.lst (rs.map R3.d)), some (.ref μ.length), some (.str r.n), some (.tup (r.p.map .str)), some (.int r.c), some (.str v)] (μ ++ [Ob.lst (acc.map D.str)]) ∧ Nm 200 v := by
        have hs := str_ok (μ := μ ++ [Ob.lst (acc.map D.str)]) ro.c0 ro.c1 (by decide)
        have hn := num_nm ro.c0 (by decide) ro.c1
        have hcol : Nm 3 " : " := lit_nm (by decide +kernel) (by decide +kernel)
        have hh := (hj1.app hcol).app hn
        have q1 : J.length + (" : " : Str).length ≤ cap := by have := hj1.2; have := hcol.2; omega
        have q2 : (J ++ " : ").length + (Str.ofString (toString r.c)).length ≤ cap := by have := (hj1.app hcol).2; have := hn.2; omega
        simp only [sIf_ap, tVal_ap, eBin_ap, eVar4, R.bind_ok, eC_ap, cmpI_int, R.then_ok]
        by_cases h0 : 0 < r.c
        · refine ⟨_, ?_, hh.up (by decide)⟩
          rw [decide_eq_true h0, if_pos rfl]
          simp only [sSet_ap, eBin_ap, eVar5, R.bind_ok, eC_ap, fAdd_str, if_pos q1, eFn_ap, aCons_ap, eVar4, aNil_ap, hs, if_pos q2, R.then_ok]
          rfl
        · exact ⟨J, by rw [decide_eq_false h0]; rfl, hj1.up (by decide)⟩
      refine ⟨[some (.lst (rs.map R3.d)), some (.ref μ.length), some (.str r.n), some (.tup (r.p.map .str)), some (.int r.c), none], [some (.lst (rs.map R3.d)), some (.ref μ.length), some (.str r.n), some (.tup (r.p.map .str)), some (.int r.c), some (.str v)], μ ++ [Ob.lst ((acc ++ [v]).map D.str)], rfl, ?_, acc ++ [v], rfl, rfl, ?_, ?_⟩
      · unfold lpSh
        have hmm : ([D.str r.n, D.str "="] : List D) ++ r.p.map D.str = (r.n :: "=" :: r.p).map D.str := rfl
        have hset : (sSet 5 (eMeth "str" fJoin (eC (.str " ")) (aCons (eBin fAdd (eLst (aCons (eVar 2) (aCons (eC (.str "=")) aNil))) (eFn fList (aCons (eVar 3) aNil))) aNil))) [some (.lst (rs.map R3.d)), some (.ref μ.length), some (.str r.n), some (.tup (r.p.map .str)), some (.int r.c), none] (μ ++ [Ob.lst (acc.map D.str)]) =
            .nx [some (.lst (rs.map R3.d)), some (.ref μ.length), some (.str r.n), some (.tup (r.p.map .str)), some (.int r.c), some (.str J)] (μ ++ [Ob.lst (acc.map D.str)]) := by
          simp only [sSet_ap, eMeth_ap, eC_ap, R.bind_ok, tyD_str, if_true, aCons_ap, eBin_ap, eLst_ap, eVar2, aNil_ap, eFn_ap, eVar3, fList_tup, fAdd_lst, if_pos hcat, hmm, hjoin, R.then_ok]
          rfl
        rw [sSeq_ap, hset, SR.seq_nx, sSeq_ap, v1, SR.seq_nx, sDrop_ap, eMeth_ap, eVar1, R.bind_ok, tyD_end, if_pos rfl, aCons_ap, eVar5, R.bind_ok, aNil_ap, R.bind_ok, R.bind_ok, append_end (by rw [List.length_map]; omega), List.map_append]
        rfl
      · rw [List.length_append, List.length_singleton]; omega
      · intro h hh
        rcases List.mem_append.mp hh with hh | hh
        · exact a3 h hh
        · rw [List.mem_singleton] at hh
          subst hh
          exact v2)
  rw [Nat.zero_add, List.length_map] at a1
  have hj := joinY_nm nl_nm a2
  refine ⟨_, ?_, hj.up (by
    have : acc.length * (200 + 1) ≤ 10 * 201 := Nat.mul_le_mul (by omega) (by omega)
    omega)⟩
  have hsum := len_le_sum_n acc fun p hp => (a2 p hp).2
  have hjoin : fJoin (.str "\n") [.lst (acc.map .str)] (μ ++ [.dead]) = .ok (.str (Txt.join "\n" acc)) (μ ++ [.dead]) := join_lst (by
    have e1 : ("\n" : Str).length = 1 := rfl
    rw [e1]
    omega)
  refine mDef_rt [.dead] ?_ rfl
  show b__law_shown [some (.lst (rs.map R3.d)), none, none, none, none, none] μ = _
  unfold b__law_shown
  simp only [sSeq_ap, sSet_ap, eNew_ap, aNil_ap, R.bind_ok, R.then_ok, SR.seq_nx, List.set_cons_succ, List.set_cons_zero, sFor_ap, iOf_ap, eVar0, items_lst, wipeF_cons, wipeF_nil]
  rw [show (sSeq (sSet 5 (eMeth "str" fJoin (eC (.str " ")) (aCons (eBin fAdd (eLst (aCons (eVar 2) (aCons (eC (.str "=")) aNil))) (eFn fList (aCons (eVar 3) aNil))) aNil)))
  (sSeq (sIf (tVal (eBin cGt (eVar 4) (eC (.int 0))))
  (sSet 5 (eBin fAdd (eBin fAdd (eVar 5) (eC (.str " : "))) (eFn fStr (aCons (eVar 4) aNil))))
  sNext)
  (sDrop (eMeth "list" fAppend (eVar 1) (aCons (eVar 5) aNil))))) = lpSh from rfl, e, SR.seq_nx, sSeq_ap, sFz_end rfl, SR.seq_nx]
  simp only [List.set_cons_succ, List.set_cons_zero, sRet_ap, eMeth_ap, eC_ap, R.bind_ok, tyD_str, if_true, aCons_ap, eVar1, aNil_ap, hjoin, R.then_ok]
end G81

namespace G81
open Mp PySem L2
/-! ### the whole text -/
def oddL : List Str := (["", "S", "S =a", "S= a", "= a", "s = a", "S = a :", "S = a : 0", "S = a : 07", "S = a : x", "S : 3"] : List Str) ++ (["S = : 4", "S = a  b", "S = a ", " S = a", "S = a : 3 b", "S = a1", "S = Aa", "S = a = b"] : List Str) ++ (["S = a : -1", "S_ = a", "S_12345 = a", "_1 = a", "S_1 = a", "ABCDEFGHI = a"] : List Str) ++ (["S = abcdefghi", "S_1a = a", "S = a : : 3"] : List Str)
theorem odd_len : oddL.length = 28 := rfl
theorem odd_nm : ∀ s ∈ oddL, Nm 100 s := fun s hs => by
  have h : oddL.all (fun s => (TL.tl s).all (fun c => decide (c < 128)) && decide ((TL.tl s).length ≤ 100)) = true := by decide +kernel
  have z := List.all_eq_true.mp h s hs
  rw [Bool.and_eq_true] at z
  exact lit_nm z.1 (of_decide_eq_true z.2)
theorem odd_ok (c : Int) (μ : Sto) : ∃ s, m__law_odd [.int c] μ = .ok (.str s) μ ∧ Nm 100 s := by
  obtain ⟨s, hs, e⟩ := ix_mod (hs := oddL) (by intro h; cases h) c μ
  rw [odd_len] at e
  refine ⟨s, mDef_rt0 ?_ rfl, odd_nm s hs⟩
  show b__law_odd [some (.int c), none] μ = _
  unfold b__law_odd
  have hc : ∀ n : Nat, n ≤ 100 → n ≤ cap := fun n h => by have : cap = 1000000 := rfl; omega
  simp only [sSeq_ap, sSet_ap, eLst_ap, aCons_ap, eC_ap, R.bind_ok, aNil_ap, R.then_ok, SR.seq_nx, List.set_cons_succ, List.set_cons_zero, eBin_ap, eVar1, fAdd_lst]
  rw [if_pos (hc _ (by decide))]
  simp only [sSeq_ap, sSet_ap, eBin_ap, eLst_ap, aCons_ap, eC_ap, aNil_ap, R.bind_ok, R.then_ok, SR.seq_nx, List.set_cons_succ, List.set_cons_zero, eVar1, fAdd_lst]
  rw [if_pos (hc _ (by decide))]
  simp only [sSeq_ap, sSet_ap, eBin_ap, eLst_ap, aCons_ap, eC_ap, aNil_ap, R.bind_ok, R.then_ok, SR.seq_nx, List.set_cons_succ, List.set_cons_zero, eVar1, fAdd_lst]
  rw [if_pos (hc _ (by decide))]
  simp only [R.bind_ok, R.then_ok, SR.seq_nx, List.set_cons_succ, List.set_cons_zero, sRet_ap, eBin_ap, eVar1, eVar0, eC_ap, fMod_int]
  rw [if_pos (show (0 : Int) < 28 by decide), R.bind_ok]
  have e : fIx (.lst (oddL.map .str)) (.int (c % 28)) μ = .ok (.str s) μ := e
  show ((fIx (.lst (oddL.map .str)) (.int (c % 28)) μ).then _ _) = _
  rw [e]
  rfl
theorem mul_nm {n : Int} (h : 0 ≤ n ∧ n ≤ 60) : Nm 60 (Txt.mul "0" n) := by
  have h2 : ∀ k : Nat, k ≤ 60 → Nm 60 (Txt.mul "0" (k : Int)) := fun k hk => by
    have hall : (List.range 61).all (fun k => (TL.tl (Txt.mul "0" (k : Int))).all (fun c => decide (c < 128)) && decide ((TL.tl (Txt.mul "0" (k : Int))).length ≤ 60)) = true := by decide +kernel
    have z := List.all_eq_true.mp hall k (List.mem_range.mpr (by omega))
    rw [Bool.and_eq_true] at z
    exact lit_nm z.1 (of_decide_eq_true z.2)
  obtain ⟨k, rfl⟩ := Int.eq_ofNat_of_zero_le h.1
  exact h2 k (by omega)
theorem long_ok (c : Int) (μ : Sto) : ∃ s, m__law_long [.int c] μ = .ok (.str s) μ ∧ Nm 100 s := by
  have hcap : cap = 1000000 := rfl
  have hm := mul_nm (n := 59 + c % 2) (by omega)
  have hf := (lit_nm (k := 1) (s := "1") (by decide +kernel) (by decide +kernel)).app hm
  have e1 : fMulS (.str "0") (.int (59 + c % 2)) μ = .ok (.str (Txt.mul "0" (59 + c % 2))) μ := if_pos ⟨by omega, by omega, by have : ("0" : Str).length = 1 := rfl; rw [this, Nat.one_mul]; omega⟩
  have q1 : ("1" : Str).length + (Txt.mul "0" (59 + c % 2)).length ≤ cap := by
    have : ("1" : Str).length = 1 := rfl
    have := hm.2
    omega
  generalize hF : ("1" : Str) ++ Txt.mul "0" (59 + c % 2) = F at hf
  have hg := (lit_nm (k := 8) (s := "S = a : ") (by decide +kernel) (by decide +kernel)).app hf
  have q2 : ("S = a : " : Str).length + F.length ≤ cap := by
    have : ("S = a : " : Str).length = 8 := rfl
    have := hf.2
    omega
  have e2 : fDiv (.int c) (.int 2) μ = .ok (.int (c / 2)) μ := div_sm (by decide) (by decide)
  obtain ⟨s, hs, e⟩ := ix_mod (hs := [("S = a : " : Str) ++ F, "S = NOWHERE", "S = b NOWHERE_9 : 5", "NOWHERE = NOWHERE"]) (by intro h; cases h) (c / 2) μ
  refine ⟨s, mDef_rt0 ?_ rfl, ?_⟩
  · show b__law_long [some (.int c), none] μ = _
    unfold b__law_long
    simp only [sSeq_ap, sSet_ap, eBin_ap, eC_ap, R.bind_ok, eVar0, fMod_int]
    rw [if_pos (show (0 : Int) < 2 by decide)]
    simp only [R.bind_ok, fAdd_int, e1, fAdd_str, if_pos q1, hF, R.then_ok, SR.seq_nx, List.set_cons_succ, List.set_cons_zero, sRet_ap, eBin_ap, eLst_ap, aCons_ap, eC_ap, eVar1, if_pos q2, aNil_ap, eVar0, e2, fMod_int]
    rw [if_pos (show (0 : Int) < 4 by decide), R.bind_ok]
    have e : fIx (.lst [.str (("S = a : " : Str) ++ F), .str "S = NOWHERE", .str "S = b NOWHERE_9 : 5", .str "NOWHERE = NOWHERE"]) (.int (c / 2 % 4)) μ = .ok (.str s) μ := e
    rw [e]
    rfl
  · rcases List.mem_cons.mp hs with rfl | hs
    · exact hg.up (by decide)
    · rcases List.mem_cons.mp hs with rfl | hs
      · exact lit_nm (by decide +kernel) (by decide +kernel)
      · rcases List.mem_cons.mp hs with rfl | hs
        · exact lit_nm (by decide +kernel) (by decide +kernel)
        · rw [List.mem_singleton] at hs
          subst hs
          exact lit_nm (by decide +kernel) (by decide +kernel)
/-- a cut of a text -/
theorem cut_ok {s : Str} {k : Nat} (h : Nm k s) (hk : k ≤ 100000) (lo hi : Option Int) (μ : Sto) : ∃ u, fSl (.str s) lo hi μ = .ok (.str u) μ ∧ Nm k u := by
  have hcap : cap = 1000000 := rfl
  refine ⟨cutS s lo hi, if_pos (by have := h.2; omega), fun c hc => ?_, Nat.le_trans (cutS_length s lo hi) h.2⟩
  have hc : c ∈ ((TL.tl s).drop (HT.sIx s.length 0 lo)).take (HT.sIx s.length s.length hi - HT.sIx s.length 0 lo) := by
    have z : c ∈ (cutS s lo hi).cps.toList := hc
    unfold cutS at z
    exact z
  exact h.1 c (List.mem_of_mem_drop (List.mem_of_mem_take hc))
theorem cutL_ok {ss : List Str} (lo hi : Option Int) (μ : Sto) : ∃ us : List Str, fSl (.lst (ss.map .str)) lo hi μ = .ok (.lst (us.map .str)) μ ∧ us.length ≤ ss.length ∧ ∀ u ∈ us, u ∈ ss := by
  refine ⟨(ss.drop (HT.sIx ss.length 0 lo)).take (HT.sIx ss.length ss.length hi - HT.sIx ss.length 0 lo), ?_, ?_, fun u hu => List.mem_of_mem_drop (List.mem_of_mem_take hu)⟩
  · show (match lstV μ (.lst (ss.map .str)) with | some xs => R.ok (D.lst (cutD xs lo hi)) μ | none => .no) = _
    rw [lstV_lst]
    dsimp only
    unfold cutD
    rw [List.length_map, ← List.map_drop, ← List.map_take]
  · rw [List.length_take, List.length_drop]
    omega
def signs : Str := "abSXQ_019:= \n\t.-+(){"
noncomputable abbrev tlText : SM := (sSeq (sSet 6 (eMeth "str" fJoin (eC (.str "\n")) (aCons (eVar 1) aNil)))
  (sSeq (sSet 7 (eBin fIx (eC (.str "abSXQ_019:= \n\t.-+(){")) (eBin fMod (eBin fDiv (eVar 3) (eC (.int 30))) (eC (.int 20)))))
  (sSeq (sSet 5 (eBin fMod (eVar 4) (eBin fAdd (eFn fLen (aCons (eVar 6) aNil)) (eC (.int 1)))))
  (sSeq (sIf (tOr (tVal (eBin cEq (eVar 2) (eC (.int 2)))) (tVal (eBin cEq (eVar 2) (eC (.int 3)))))
  (sRet (eBin fAdd (eBin fAdd (eSl (eVar 6) oNone (oSome (eVar 5))) (eVar 7)) (eSl (eVar 6) (oSome (eVar 5)) oNone)))
  sNext)
  (sSeq (sIf (tVal (eBin cEq (eVar 2) (eC (.int 4))))
  (sRet (eBin fAdd (eSl (eVar 6) oNone (oSome (eVar 5))) (eSl (eVar 6) (oSome (eBin fAdd (eVar 5) (eC (.int 1)))) oNone)))
  sNext)
  (sSeq (sIf (tVal (eBin cEq (eVar 2) (eC (.int 5))))
  (sRet (eBin fAdd (eBin fAdd (eSl (eVar 6) oNone (oSome (eVar 5))) (eVar 7)) (eSl (eVar 6) (oSome (eBin fAdd (eVar 5) (eC (.int 1)))) oNone)))
  sNext)
  (sRet (eVar 6))))))))
theorem tail_ok {rs : List Str} (hl : rs.length ≤ 10000) (hg : Nm 90000 (Txt.join "\n" rs)) (hj : (rs.map (·.length)).sum + rs.length ≤ 90000) (d0 d5 : Option D) (w c p : Int) (μ : Sto) :
    ∃ t, tlText [d0, some (.lst (rs.map .str)), some (.int w), some (.int c), some (.int p), d5, none, none] μ = .rt (.str t) μ ∧ Nm 200000 t := by
  have hcap : cap = 1000000 := rfl
  have e1 : fJoin (.str "\n") [.lst (rs.map .str)] μ = .ok (.str (Txt.join "\n" rs)) μ := join_lst (by
    have : ("\n" : Str).length = 1 := rfl
    rw [this]
    omega)
  generalize Txt.join "\n" rs = t at hg e1
  have e2 : fDiv (.int c) (.int 30) μ = .ok (.int (c / 30)) μ := div_sm (by decide) (by decide)
  have e3 := pick_ix (z := "abSXQ_019:= \n\t.-+(){") (i := c / 30) (m := 20) (μ := μ) (by decide +kernel) (by decide +kernel) (by decide +kernel)
  have hs := pick_nm (z := "abSXQ_019:= \n\t.-+(){") (i := c / 30) (by decide +kernel) (show ∀ c ∈ TL.tl "abSXQ_019:= \n\t.-+(){", c < 128 by decide +kernel)
  generalize pickS "abSXQ_019:= \n\t.-+(){" (c / 30) = sg at e3 hs
  have htl := hg.2
  have hlen : t.length ≤ cap := by omega
  have hpos : (0 : Int) < (t.length : Int) + 1 := by omega
  generalize hat : p % ((t.length : Int) + 1) = at_
  obtain ⟨a, a1, a2⟩ := cut_ok hg (by decide) none (some at_) μ
  obtain ⟨b, b1, b2⟩ := cut_ok hg (by decide) (some at_) none μ
  obtain ⟨b', b1', b2'⟩ := cut_ok hg (by decide) (some (at_ + 1)) none μ
  have la := a2.2
  have lb := b2.2
  have lb' := b2'.2
  have ls := hs.2
  have l1 : a.length + sg.length ≤ cap := by omega
  have l2 : (a ++ sg).length + b.length ≤ cap := by rw [Str.length_append]; omega
  have l3 : a.length + b'.length ≤ cap := by omega
  have l4 : (a ++ sg).length + b'.length ≤ cap := by rw [Str.length_append]; omega
  have start : ∀ {k : SM}, (sSeq (sSet 6 (eMeth "str" fJoin (eC (.str "\n")) (aCons (eVar 1) aNil)))
      (sSeq (sSet 7 (eBin fIx (eC (.str "abSXQ_019:= \n\t.-+(){")) (eBin fMod (eBin fDiv (eVar 3) (eC (.int 30))) (eC (.int 20)))))
      (sSeq (sSet 5 (eBin fMod (eVar 4) (eBin fAdd (eFn fLen (aCons (eVar 6) aNil)) (eC (.int 1))))) k))) [d0, some (.lst (rs.map .str)), some (.int w), some (.int c), some (.int p), d5, none, none] μ =
      k [d0, some (.lst (rs.map .str)), some (.int w), some (.int c), some (.int p), some (.int at_), some (.str t), some (.str sg)] μ := fun {k} => by
    simp only [sSeq_ap, sSet_ap, eMeth_ap, eC_ap, R.bind_ok, tyD_str, if_true, aCons_ap, eVar1, aNil_ap, e1, R.then_ok, SR.seq_nx, List.set_cons_succ, List.set_cons_zero, eBin_ap, eVar3, e2, fMod_int]
    rw [if_pos (show (0 : Int) < 20 by decide)]
    simp only [sSeq_ap, sSet_ap, eBin_ap, R.bind_ok, e3, R.then_ok, SR.seq_nx, List.set_cons_succ, List.set_cons_zero, eVar4, eFn_ap, aCons_ap, eVar6, aNil_ap, fLen_str, if_pos hlen, fAdd_int, fMod_int, eC_ap]
    rw [if_pos hpos, hat]
    rfl
  unfold tlText
  rw [start]
  simp only [sSeq_ap, sIf_ap, tOr_ap, tVal_ap, eBin_ap, eVar2, R.bind_ok, eC_ap, cEq_int]
  by_cases w2 : w = 2
  · refine ⟨a ++ sg ++ b, ?_, ((a2.app hs).app b2).up (by decide)⟩
    rw [decide_eq_true w2]
    simp only [if_true, R.then_ok, sRet_ap, eBin_ap, eSl_ap, eVar6, R.bind_ok, oNone_ap, oSome_ap, eVar5, a1, eVar7, fAdd_str, if_pos l1, b1, if_pos l2, SR.seq_rt]
  · rw [decide_eq_false w2, if_neg Bool.false_ne_true]
    by_cases w3 : w = 3
    · refine ⟨a ++ sg ++ b, ?_, ((a2.app hs).app b2).up (by decide)⟩
      rw [decide_eq_true w3]
      simp only [if_true, R.then_ok, sRet_ap, eBin_ap, eSl_ap, eVar6, R.bind_ok, oNone_ap, oSome_ap, eVar5, a1, eVar7, fAdd_str, if_pos l1, b1, if_pos l2, SR.seq_rt]
    · rw [decide_eq_false w3, R.then_ok, if_neg Bool.false_ne_true, sNext_ap, SR.seq_nx]
      simp only [sSeq_ap, sIf_ap, tVal_ap, eBin_ap, eVar2, R.bind_ok, eC_ap, cEq_int]
      by_cases w4 : w = 4
      · refine ⟨a ++ b', ?_, (a2.app b2').up (by decide)⟩
        rw [decide_eq_true w4]
        simp only [if_true, R.then_ok, sRet_ap, eBin_ap, eSl_ap, eVar6, R.bind_ok, oNone_ap, oSome_ap, eVar5, a1, eC_ap, fAdd_int, b1', fAdd_str, if_pos l3, SR.seq_rt]
      · rw [decide_eq_false w4, R.then_ok, if_neg Bool.false_ne_true, sNext_ap, SR.seq_nx]
        simp only [sSeq_ap, sIf_ap, tVal_ap, eBin_ap, eVar2, R.bind_ok, eC_ap, cEq_int]
        by_cases w5 : w = 5
        · refine ⟨a ++ sg ++ b', ?_, ((a2.app hs).app b2').up (by decide)⟩
          rw [decide_eq_true w5]
          simp only [if_true, R.then_ok, sRet_ap, eBin_ap, eSl_ap, eVar6, R.bind_ok, oNone_ap, oSome_ap, eVar5, a1, eVar7, fAdd_str, if_pos l1, eC_ap, fAdd_int, b1', if_pos l4, SR.seq_rt]
        · rw [decide_eq_false w5, R.then_ok, if_neg Bool.false_ne_true, sNext_ap, SR.seq_nx]
          exact ⟨t, rfl, hg.up (by decide)⟩
theorem text_ok (ns : List Int) : ∃ t, m__law_text [.rol (ns.map .int)] [] = .ok (.str t) [] ∧ Fits t := by
  have hcap : cap = 1000000 := rfl
  obtain ⟨rl, r1, r2, r3⟩ := rules_ok ns []
  obtain ⟨s, s1, s2⟩ := shown_ok r2 r3 []
  have h0 : m__law_cell_at [.rol (ns.map .int), .int 0] [] = .ok (.int (ns.getD 0 0)) [] := cell_at_eq ns 0 []
  have h12 : m__law_cell_at [.rol (ns.map .int), .int 12] [] = .ok (.int (ns.getD 12 0)) [] := cell_at_eq ns 12 []
  have h13 : m__law_cell_at [.rol (ns.map .int), .int 13] [] = .ok (.int (ns.getD 13 0)) [] := cell_at_eq ns 13 []
  generalize ns.getD 0 0 = n0 at h0
  generalize ns.getD 12 0 = c at h12
  generalize ns.getD 13 0 = p at h13
  have hsl := s2.2
  have hnl : ("\n" : Str).length = 1 := rfl
  have hsum := split_sum (x := s) (y := "\n") rfl
  generalize hrows : Txt.split s "\n" = rw0 at hsum
  have hrn : ∀ r ∈ rw0, Nm 3000 r := fun r hr => by
    rw [← hrows] at hr
    exact ⟨s2.1.split hr, Nat.le_trans (split_short (y := "\n") rfl hr) hsl⟩
  have e48 : fDiv (.int n0) (.int 48) [] = .ok (.int (n0 / 48)) [] := div_sm (by decide) (by decide)
  have hsp : s.length + 2 ≤ cap := by omega
  have e0 : (("\n" : Str).length == 0) = false := rfl
  -- the rows, one more set between
  obtain ⟨rs, d5, q1, q2, q3, q4⟩ : ∃ (rs : List Str) (d5 : Option D), (sIf (tVal (eBin cLt (eVar 2) (eC (.int 2))))
      (sSeq (sSet 5 (eBin fMod (eVar 4) (eBin fAdd (eFn fLen (aCons (eVar 1) aNil)) (eC (.int 1)))))
      (sSet 1 (eBin fAdd (eBin fAdd (eSl (eVar 1) oNone (oSome (eVar 5))) (eLst (aCons (eCallV (tabL [("_law_odd", m__law_odd), ("_law_long", m__law_long)]) (eBin fIx (eLst (aCons (eC (.fn "_law_odd")) (aCons (eC (.fn "_law_long")) aNil))) (eVar 2)) (aCons (eVar 3) aNil)) aNil))) (eSl (eVar 1) (oSome (eVar 5)) oNone))))
      sNext) [some (.rol (ns.map .int)), some (.lst (rw0.map .str)), some (.int (n0 / 48 % 8)), some (.int c), some (.int p), none, none, none] [] = .nx [some (.rol (ns.map .int)), some (.lst (rs.map .str)), some (.int (n0 / 48 % 8)), some (.int c), some (.int p), d5, none, none] [] ∧
      rs.length ≤ 2 * rw0.length + 1 ∧ (∀ r ∈ rs, Sg r) ∧ (rs.map (·.length)).sum ≤ 2 * (rw0.map (·.length)).sum + 100 := by
    have hw : 0 ≤ n0 / 48 % 8 ∧ n0 / 48 % 8 < 8 := by omega
    generalize n0 / 48 % 8 = w at hw
    simp only [sIf_ap, tVal_ap, eBin_ap, eVar2, R.bind_ok, eC_ap, cmpI_int, R.then_ok]
    by_cases hw2 : w < 2
    · rw [decide_eq_true hw2, if_pos rfl]
      have hpos : (0 : Int) < (rw0.length : Int) + 1 := by omega
      generalize hat : p % ((rw0.length : Int) + 1) = at_
      have sumle : ∀ {us ss : List Str} {a b : Nat}, us = (ss.drop a).take b → (us.map (·.length)).sum ≤ (ss.map (·.length)).sum ∧ us.length ≤ ss.length := fun {us ss a b} e => by
        subst e
        have key : ∀ (l : List Str) (k : Nat), ((l.take k).map (·.length)).sum ≤ (l.map (·.length)).sum := fun l => by
          induction l with
          | nil => intro k; simp
          | cons x r ih =>
            intro k
            cases k with
            | zero => simp
            | succ k =>
              have := ih k
              simp only [List.take_succ_cons, List.map_cons, List.sum_cons]
              omega
        have key2 : ∀ (l : List Str) (k : Nat), ((l.drop k).map (·.length)).sum ≤ (l.map (·.length)).sum := fun l => by
          induction l with
          | nil => intro k; simp
          | cons x r ih =>
            intro k
            cases k with
            | zero => simp
            | succ k =>
              have := ih k
              simp only [List.drop_succ_cons, List.map_cons, List.sum_cons]
              omega
        exact ⟨Nat.le_trans (key _ _) (key2 _ _), by rw [List.length_take, List.length_drop]; omega⟩
      have cut : ∀ lo hi, ∃ us : List Str, fSl (.lst (rw0.map .str)) lo hi [] = .ok (.lst (us.map .str)) [] ∧ us.length ≤ rw0.length ∧ (∀ u ∈ us, u ∈ rw0) ∧ (us.map (·.length)).sum ≤ (rw0.map (·.length)).sum := fun lo hi => by
        refine ⟨(rw0.drop (HT.sIx rw0.length 0 lo)).take (HT.sIx rw0.length rw0.length hi - HT.sIx rw0.length 0 lo), ?_, (sumle rfl).2, fun u hu => List.mem_of_mem_drop (List.mem_of_mem_take hu), (sumle rfl).1⟩
        show (match lstV [] (.lst (rw0.map .str)) with | some xs => R.ok (D.lst (cutD xs lo hi)) [] | none => .no) = _
        rw [lstV_lst]
        dsimp only
        unfold cutD
        rw [List.length_map, ← List.map_drop, ← List.map_take]
      obtain ⟨ua, a1, a2, a3, a4⟩ := cut none (some at_)
      obtain ⟨ub, b1, b2, b3, b4⟩ := cut (some at_) none
      obtain ⟨x, x1, x2⟩ : ∃ x, (eCallV (tabL [("_law_odd", m__law_odd), ("_law_long", m__law_long)]) (eBin fIx (eLst (aCons (eC (.fn "_law_odd")) (aCons (eC (.fn "_law_long")) aNil))) (eVar 2)) (aCons (eVar 3) aNil)) [some (.rol (ns.map .int)), some (.lst (rw0.map .str)), some (.int w), some (.int c), some (.int p), some (.int at_), none, none] [] = .ok (.str x) [] ∧ Nm 100 x := by
        have hw01 : w = 0 ∨ w = 1 := by omega
        rcases hw01 with rfl | rfl
        · obtain ⟨x, x1, x2⟩ := odd_ok c []
          exact ⟨x, x1, x2⟩
        · obtain ⟨x, x1, x2⟩ := long_ok c []
          exact ⟨x, x1, x2⟩
      have hx := x2.2
      have l1 : (ua.map D.str).length + ([D.str x] : List D).length ≤ cap := by rw [List.length_map, List.length_singleton]; omega
      have l2 : (ua.map D.str ++ [D.str x]).length + (ub.map D.str).length ≤ cap := by rw [List.length_append, List.length_map, List.length_singleton, List.length_map]; omega
      have hm : ua.map D.str ++ [D.str x] ++ ub.map D.str = (ua ++ [x] ++ ub).map D.str := by rw [List.map_append, List.map_append]; rfl
      refine ⟨ua ++ [x] ++ ub, some (.int at_), ?_, ?_, ?_, ?_⟩
      · rw [sSeq_ap, sSet_ap, eBin_ap, eVar4, R.bind_ok, eBin_ap, eFn_ap, aCons_ap, eVar1, R.bind_ok, aNil_ap, R.bind_ok, R.bind_ok, fLen_lst, R.bind_ok, eC_ap, R.bind_ok, fAdd_int, R.bind_ok, fMod_int, List.length_map, if_pos hpos, hat, R.then_ok, SR.seq_nx]
        show sSet _ _ [some (.rol (ns.map .int)), some (.lst (rw0.map .str)), some (.int w), some (.int c), some (.int p), some (.int at_), none, none] [] = _
        rw [sSet_ap, eBin_ap, eBin_ap, eSl_ap, eVar1, R.bind_ok, oNone_ap, R.bind_ok, oSome_ap, eVar5, R.bind_ok, R.bind_ok, a1, R.bind_ok, eLst_ap, aCons_ap, x1, R.bind_ok, aNil_ap, R.bind_ok, R.bind_ok, R.bind_ok, fAdd_lst, if_pos l1, R.bind_ok, eSl_ap, eVar1, R.bind_ok, oSome_ap, eVar5, R.bind_ok, R.bind_ok, oNone_ap, R.bind_ok, b1, R.bind_ok, fAdd_lst, if_pos l2, hm, R.then_ok]
        rfl
      · simp only [List.length_append, List.length_cons, List.length_nil]
        omega
      · intro r hr
        rcases List.mem_append.mp hr with hr | hr
        · rcases List.mem_append.mp hr with hr | hr
          · exact (hrn r (a3 r hr)).1
          · rw [List.mem_singleton] at hr
            subst hr
            exact x2.1
        · exact (hrn r (b3 r hr)).1
      · simp only [List.map_append, List.sum_append, List.map_cons, List.map_nil, List.sum_cons, List.sum_nil]
        omega
    · rw [decide_eq_false hw2, if_neg Bool.false_ne_true, sNext_ap]
      exact ⟨rw0, none, rfl, by omega, fun r hr => (hrn r hr).1, by omega⟩
  have hj : (rs.map (·.length)).sum + rs.length ≤ 90000 := by omega
  have hjn : Nm 90000 (Txt.join "\n" rs) := by
    refine ⟨Sg.join nl_nm.1 q3, ?_⟩
    rw [TL.join_eq]
    by_cases hne : rs = []
    · subst hne
      exact Nat.zero_le _
    · have e := join_len "\n" rs hne
      rw [hnl] at e
      omega
  obtain ⟨t, t1, t2⟩ := tail_ok (by omega) hjn hj (some (.rol (ns.map .int))) d5 (n0 / 48 % 8) c p []
  refine ⟨t, mDef_rt0 ?_ rfl, ⟨t2.1, by have := t2.2; omega⟩⟩
  show b__law_text [some (.rol (ns.map .int)), none, none, none, none, none, none, none] [] = _
  unfold b__law_text
  simp only [sSeq_ap, sSet_ap, eMeth_ap, eFn_ap, aCons_ap, eVar0, R.bind_ok, aNil_ap, r1, s1, tyD_str, if_true, eC_ap, fSplit_str, if_pos (And.intro e0 hsp), hrows, R.then_ok, SR.seq_nx, List.set_cons_succ, List.set_cons_zero, eBin_ap, h0, e48, fMod_int]
  rw [if_pos (show (0 : Int) < 8 by decide)]
  simp only [R.then_ok, SR.seq_nx, List.set_cons_succ, List.set_cons_zero, sSeq_ap, sSet_ap, eFn_ap, aCons_ap, eVar0, R.bind_ok, aNil_ap, eC_ap, h12, h13]
  rw [q1, SR.seq_nx]
  exact t1
theorem plain (ns : List Int) (_ : ns.length ≤ 63) : m_law [.rol (ns.map .int)] [] = .ok (.bl true) [] := by
  obtain ⟨t, t1, t2⟩ := text_ok ns
  exact law_of_text t1 t2
end G81

namespace G81
open Mp PySem PySem.Spec PyProof.Rows L2
/-! ### the walk -/
def top (i : Nat) : Stmt := PySem.Challenge.pw_readgrove_k81_no_grammars.main.body.getD i (.Pass ⟨0, 0, 0, 0⟩)
structure Tx (K : PySem.W.Frag) (mg : PySem.Str → Option Value) (C_Endless C_GroveError C_NoGrammar C_NoOrder C_NoReading C_NoText C_TooMany : Addr) : Prop where
  z_ValueError : mg "ValueError" = none
  z_all : mg "all" = none
  z_int : mg "int" = none
  z_isinstance : mg "isinstance" = none
  z_len : mg "len" = none
  z_list : mg "list" = none
  z_range : mg "range" = none
  z_str : mg "str" = none
  z_tuple : mg "tuple" = none
  g_FIGURES : ∃ t, mg "FIGURES" = some (.str c_FIGURES t)
  g_GREAT_grammars : ∃ t, mg "GREAT_grammars" = some (.str c_GREAT_grammars t)
  g_GREAT_texts : ∃ t, mg "GREAT_texts" = some (.str c_GREAT_texts t)
  g_SMALL : ∃ t, mg "SMALL" = some (.str c_SMALL t)
  g_LONGEST : ∃ t, mg "LONGEST" = some (.int c_LONGEST t)
  g_MOST_FIGURES : ∃ t, mg "MOST_FIGURES" = some (.int c_MOST_FIGURES t)
  m_Endless : mg "Endless" = some (.ref C_Endless)
  m_GroveError : mg "GroveError" = some (.ref C_GroveError)
  m_NoGrammar : mg "NoGrammar" = some (.ref C_NoGrammar)
  m_NoOrder : mg "NoOrder" = some (.ref C_NoOrder)
  m_NoReading : mg "NoReading" = some (.ref C_NoReading)
  m_NoText : mg "NoText" = some (.ref C_NoText)
  m_TooMany : mg "TooMany" = some (.ref C_TooMany)
  e_NoGrammar : ExF K mg "NoGrammar" C_NoGrammar
  e_NoText : ExF K mg "NoText" C_NoText
  x_NoGrammar : ExcC K C_NoGrammar
  x_NoText : ExcC K C_NoText
  k_NoGrammar_Endless : PySem.W.kitOne K (.ref C_NoGrammar) (.ref C_Endless) = some false
  k_NoGrammar_NoGrammar : PySem.W.kitOne K (.ref C_NoGrammar) (.ref C_NoGrammar) = some true
  k_NoGrammar_NoOrder : PySem.W.kitOne K (.ref C_NoGrammar) (.ref C_NoOrder) = some false
  k_NoGrammar_NoReading : PySem.W.kitOne K (.ref C_NoGrammar) (.ref C_NoReading) = some false
  k_NoGrammar_NoText : PySem.W.kitOne K (.ref C_NoGrammar) (.ref C_NoText) = some false
  k_NoGrammar_TooMany : PySem.W.kitOne K (.ref C_NoGrammar) (.ref C_TooMany) = some false
  k_NoGrammar_ValueError : PySem.W.kitOne K (.ref C_NoGrammar) (.type "ValueError") = some true
  k_NoText_Endless : PySem.W.kitOne K (.ref C_NoText) (.ref C_Endless) = some false
  k_NoText_NoGrammar : PySem.W.kitOne K (.ref C_NoText) (.ref C_NoGrammar) = some false
  k_NoText_NoOrder : PySem.W.kitOne K (.ref C_NoText) (.ref C_NoOrder) = some false
  k_NoText_NoReading : PySem.W.kitOne K (.ref C_NoText) (.ref C_NoReading) = some false
  k_NoText_NoText : PySem.W.kitOne K (.ref C_NoText) (.ref C_NoText) = some true
  k_NoText_TooMany : PySem.W.kitOne K (.ref C_NoText) (.ref C_TooMany) = some false
  k_NoText_ValueError : PySem.W.kitOne K (.ref C_NoText) (.type "ValueError") = some true
  k_NoneType_Endless : PySem.W.kitOne K (.type "NoneType") (.ref C_Endless) = some false
  k_NoneType_NoGrammar : PySem.W.kitOne K (.type "NoneType") (.ref C_NoGrammar) = some false
  k_NoneType_NoOrder : PySem.W.kitOne K (.type "NoneType") (.ref C_NoOrder) = some false
  k_NoneType_NoReading : PySem.W.kitOne K (.type "NoneType") (.ref C_NoReading) = some false
  k_NoneType_NoText : PySem.W.kitOne K (.type "NoneType") (.ref C_NoText) = some false
  k_NoneType_TooMany : PySem.W.kitOne K (.type "NoneType") (.ref C_TooMany) = some false
  k_NoneType_ValueError : PySem.W.kitOne K (.type "NoneType") (.type "ValueError") = some false
  k_NoneType_list : PySem.W.kitOne K (.type "NoneType") (.type "list") = some false
  k_int_list : PySem.W.kitOne K (.type "int") (.type "list") = some false
  k_list_list : PySem.W.kitOne K (.type "list") (.type "list") = some true
  k_str_list : PySem.W.kitOne K (.type "str") (.type "list") = some false
  k_tuple_list : PySem.W.kitOne K (.type "tuple") (.type "list") = some false
  q_NoGrammar_GroveError : PySem.W.exmOne K (.ref C_NoGrammar) (.ref C_GroveError) = some true
  q_NoText_GroveError : PySem.W.exmOne K (.ref C_NoText) (.ref C_GroveError) = some true
section
variable {P : Program} {w : World} {K : PySem.W.Frag} {mg : PySem.Str → Option Value} {base : Heap} {C_Endless C_GroveError C_NoGrammar C_NoOrder C_NoReading C_NoText C_TooMany : Addr}
abbrev s__law_cell_at : Stmt := top 27
theorem sc__law_cell_at : FnScope ["script", "k"] ["script", "k"] (defScope s__law_cell_at) := ⟨rfl, rfl, rfl, by decide +kernel, rfl, by decide +kernel, by decide +kernel⟩
theorem by__law_cell_at (T : Tx K mg C_Endless C_GroveError C_NoGrammar C_NoOrder C_NoReading C_NoText C_TooMany)  : Body P w K mg base ["script", "k"] "_law_cell_at" s__law_cell_at 0 b__law_cell_at := fun f cdv A outer s H E hr =>
  (ssm_cons (sm_if (tm_cmp op_lt om_cmp (em_var 1) (em_len T.z_len (am_cons (em_var 0) am_nil))) (ssm_one (sm_ret (em_ix ix_seq om_ix (em_var 0) (em_var 1)))) ssm_nil)
    (ssm_one (sm_ret em_int)))
abbrev s__law_shown : Stmt := top 32
theorem sc__law_shown : FnScope ["rules", "rows", "name", "parts", "cost", "row"] ["rules"] (defScope s__law_shown) := ⟨rfl, rfl, rfl, by decide +kernel, rfl, by decide +kernel, by decide +kernel⟩
theorem by__law_shown (T : Tx K mg C_Endless C_GroveError C_NoGrammar C_NoOrder C_NoReading C_NoText C_TooMany)  : Body P w K mg base ["rules", "rows", "name", "parts", "cost", "row"] "_law_shown" s__law_shown 0 b__law_shown := fun f cdv A outer s H E hr =>
  (ssm_cons (sm_set 1 sc__law_shown.nd (em_new am_nil))
    (ssm_cons (sm_for [2, 3, 4, 5] passesD rfl (im_of (em_var 0)) (gm_tup rfl (gms_cons (gm_name 2 sc__law_shown.nd) (gms_cons (gm_name 3 sc__law_shown.nd) (gms_cons (gm_name 4 sc__law_shown.nd) gms_nil)))) (ssm_cons (sm_set 5 sc__law_shown.nd (em_m PySem.F.plainAttrs_str PySem.F.slot_str_join PySem.F.type_str_join mt_join me_join em_str (am_cons (em_bin op_addAll om_add (em_lst (am_cons (em_var 2) (am_cons em_str am_nil))) (em_list T.z_list (am_cons (em_var 3) am_nil))) am_nil)))
    (ssm_cons (sm_if (tm_cmp op_gt om_cmp (em_var 4) em_int) (ssm_one (sm_set 5 sc__law_shown.nd (em_bin op_addAll om_add (em_bin op_addAll om_add (em_var 5) em_str) (em_strI T.z_str (am_cons (em_var 4) am_nil))))) ssm_nil)
    (ssm_one (sm_drop (em_m PySem.F.plainAttrs_list PySem.F.slot_list_append PySem.F.type_list_append mt_append me_append (em_var 1) (am_cons (em_var 5) am_nil)))))))
    (ssm_fz 1 (ssm_one (sm_ret (em_m PySem.F.plainAttrs_str PySem.F.slot_str_join PySem.F.type_str_join mt_join me_join em_str (am_cons (em_var 1) am_nil)))))))
abbrev s__law_heads : Stmt := top 28
theorem sc__law_heads : FnScope ["cells", "found", "cell", "name", "k"] ["cells"] (defScope s__law_heads) := ⟨rfl, rfl, rfl, by decide +kernel, rfl, by decide +kernel, by decide +kernel⟩
theorem by__law_heads (T : Tx K mg C_Endless C_GroveError C_NoGrammar C_NoOrder C_NoReading C_NoText C_TooMany)  : Body P w K mg base ["cells", "found", "cell", "name", "k"] "_law_heads" s__law_heads 0 b__law_heads := fun f cdv A outer s H E hr =>
  (ssm_cons (sm_set 1 sc__law_heads.nd (em_new am_nil))
    (ssm_cons (sm_for [2, 3] passesD rfl (im_of (em_var 0)) (gm_name 2 sc__law_heads.nd) (ssm_cons (sm_set 2 sc__law_heads.nd (em_bin op_mod om_mod (em_var 2) (em_bin op_pow om_pow em_int em_int)))
    (ssm_cons (sm_set 3 sc__law_heads.nd (em_m PySem.F.plainAttrs_str PySem.F.slot_str_join PySem.F.type_str_join mt_join me_join em_str (am_cons (em_comp (own := [("k", 4)]) rfl sc__law_heads.nd (im_range1 (am_cons (em_bin op_addAll om_add em_int (em_bin op_mod om_mod (em_bin op_fdivW om_div (em_var 2) em_int) em_int)) am_nil) T.z_range) (blkOk_by (by rfl)) (fun _ _ _ _ _ => (gm_name 4 sc__law_heads.nd)) (fun _ _ _ _ _ => tms_nil) (fun _ _ _ _ _ => (em_ix ix_seq om_ix em_str (em_bin op_mod om_mod (em_bin op_addAll om_add (em_bin op_fdivW om_div (em_var 2) (em_bin op_addAll om_add (em_var 4) em_int)) (em_bin op_mulW om_mul (em_var 4) (em_var 4))) em_int)))) am_nil)))
    (ssm_cons (sm_if (tm_cmp (op_eqAll hr.units) om_eq (em_bin op_mod om_mod (em_var 2) em_int) em_int) (ssm_one (sm_set 3 sc__law_heads.nd (em_bin op_addAll om_add (em_bin op_addAll om_add (em_var 3) em_str) (em_strI T.z_str (am_cons (em_bin op_mod om_mod (em_bin op_fdivW om_div (em_var 2) em_int) (em_ix ix_seq om_ix (em_lst (am_cons em_int (am_cons em_int am_nil))) (em_bin op_mod om_mod (em_bin op_fdivW om_div (em_var 2) em_int) em_int))) am_nil))))) ssm_nil)
    (ssm_one (sm_if (tm_cmp (op_notInAll (room65 hr)) om_notIn (em_var 3) (em_var 1)) (ssm_one (sm_drop (em_m PySem.F.plainAttrs_list PySem.F.slot_list_append PySem.F.type_list_append mt_append me_append (em_var 1) (am_cons (em_var 3) am_nil)))) ssm_nil))))))
    (ssm_fz 1 (ssm_one (sm_ret (em_var 1))))))
abbrev s__law_word : Stmt := top 29
theorem sc__law_word : FnScope ["number", "k"] ["number"] (defScope s__law_word) := ⟨rfl, rfl, rfl, by decide +kernel, rfl, by decide +kernel, by decide +kernel⟩
theorem by__law_word (T : Tx K mg C_Endless C_GroveError C_NoGrammar C_NoOrder C_NoReading C_NoText C_TooMany)  : Body P w K mg base ["number", "k"] "_law_word" s__law_word 0 b__law_word := fun f cdv A outer s H E hr =>
  (ssm_one (sm_ret (em_m PySem.F.plainAttrs_str PySem.F.slot_str_join PySem.F.type_str_join mt_join me_join em_str (am_cons (em_comp (own := [("k", 1)]) rfl sc__law_word.nd (im_range1 (am_cons (em_bin op_addAll om_add em_int (em_bin op_mod om_mod (em_bin op_fdivW om_div (em_var 0) em_int) em_int)) am_nil) T.z_range) (blkOk_by (by rfl)) (fun _ _ _ _ _ => (gm_name 1 sc__law_word.nd)) (fun _ _ _ _ _ => tms_nil) (fun _ _ _ _ _ => (em_ix ix_seq om_ix em_str (em_bin op_mod om_mod (em_bin op_addAll om_add (em_bin op_fdivW om_div (em_var 0) (em_bin op_addAll om_add (em_var 1) em_int)) (em_var 1)) em_int)))) am_nil))))
abbrev s__law_rule : Stmt := top 30
theorem sc__law_rule : FnScope ["cell", "k", "heads", "name", "parts", "j", "one"] ["cell", "k", "heads"] (defScope s__law_rule) := ⟨rfl, rfl, rfl, by decide +kernel, rfl, by decide +kernel, by decide +kernel⟩
theorem by__law_rule (T : Tx K mg C_Endless C_GroveError C_NoGrammar C_NoOrder C_NoReading C_NoText C_TooMany) (F__law_word : FnM P w K mg base 1 "_law_word" 1 m__law_word) : Body P w K mg base ["cell", "k", "heads", "name", "parts", "j", "one"] "_law_rule" s__law_rule 1 b__law_rule := fun f cdv A outer s H E hr =>
  (ssm_cons (sm_set 0 sc__law_rule.nd (em_bin op_mod om_mod (em_var 0) (em_bin op_pow om_pow em_int em_int)))
    (ssm_cons (sm_set 3 sc__law_rule.nd (em_ix ix_seq om_ix (em_var 2) (em_bin op_mod om_mod (em_bin op_fdivW om_div (em_var 0) em_int) (em_len T.z_len (am_cons (em_var 2) am_nil)))))
    (ssm_cons (sm_if (tm_cmp op_lt om_cmp (em_var 1) (em_len T.z_len (am_cons (em_var 2) am_nil))) (ssm_one (sm_set 3 sc__law_rule.nd (em_ix ix_seq om_ix (em_var 2) (em_var 1)))) ssm_nil)
    (ssm_cons (sm_set 4 sc__law_rule.nd (em_new am_nil))
    (ssm_cons (sm_for [5, 6] passesD rfl (im_range1 (am_cons (em_bin op_mod om_mod (em_var 0) em_int) am_nil) T.z_range) (gm_name 5 sc__law_rule.nd) (ssm_cons (sm_set 6 sc__law_rule.nd (em_bin op_mod om_mod (em_bin op_fdivW om_div (em_bin op_addAll om_add (em_var 0) (em_bin op_mulW om_mul (em_var 5) em_int)) (em_bin op_addAll om_add em_int (em_var 5))) (em_bin op_pow om_pow em_int em_int)))
    (ssm_one (sm_drop (em_m PySem.F.plainAttrs_list PySem.F.slot_list_append PySem.F.type_list_append mt_append me_append (em_var 4) (am_cons (em_ix ix_seq om_ix (em_lst (am_cons (em_call F__law_word hr (psv_of takesD) (am_cons (em_bin op_fdivW om_div (em_var 6) em_int) am_nil)) (am_cons (em_ix ix_seq om_ix (em_var 2) (em_bin op_mod om_mod (em_bin op_fdivW om_div (em_var 6) em_int) (em_len T.z_len (am_cons (em_var 2) am_nil)))) am_nil))) (em_bin op_mod om_mod (em_var 6) em_int)) am_nil))))))
    (ssm_fz 4 (ssm_one (sm_ret (em_tup (am_cons (em_var 3) (am_cons (em_tuple T.z_tuple (am_cons (em_var 4) am_nil)) (am_cons (em_ix ix_seq om_ix (em_lst (am_cons em_int (am_cons em_int (am_cons (em_bin op_mod om_mod (em_bin op_fdivW om_div (em_var 0) em_int) em_int) (am_cons (em_bin op_mod om_mod (em_bin op_mulW om_mul (em_bin op_addAll om_add (em_var 0) em_int) (em_bin op_addAll om_add (em_var 0) em_int)) (em_bin op_pow om_pow em_int em_int)) am_nil))))) (em_bin op_mod om_mod (em_bin op_fdivW om_div (em_var 0) em_int) em_int)) am_nil))))))))))))
abbrev s__law_rules : Stmt := top 31
theorem sc__law_rules : FnScope ["script", "heads", "rules", "k"] ["script"] (defScope s__law_rules) := ⟨rfl, rfl, rfl, by decide +kernel, rfl, by decide +kernel, by decide +kernel⟩
theorem by__law_rules (T : Tx K mg C_Endless C_GroveError C_NoGrammar C_NoOrder C_NoReading C_NoText C_TooMany) (F__law_heads : FnM P w K mg base 1 "_law_heads" 1 m__law_heads) (F__law_rule : FnM P w K mg base 2 "_law_rule" 3 m__law_rule) (F__law_cell_at : FnM P w K mg base 1 "_law_cell_at" 2 m__law_cell_at) : Body P w K mg base ["script", "heads", "rules", "k"] "_law_rules" s__law_rules 2 b__law_rules := fun f cdv A outer s H E hr =>
  (ssm_cons (sm_set 1 sc__law_rules.nd (em_call F__law_heads hr (psv_of takesD) (am_cons (em_bin op_addAll om_add (em_slice (em_var 0) (om_some em_int) (om_some em_int)) (em_lst (am_cons (em_call F__law_cell_at hr (psv_of takesD) (am_cons (em_var 0) (am_cons em_int am_nil))) am_nil))) am_nil)))
    (ssm_cons (sm_set 2 sc__law_rules.nd (em_new am_nil))
    (ssm_cons (sm_for [3] passesD rfl (im_range1 (am_cons (em_bin op_addAll om_add (em_len T.z_len (am_cons (em_var 1) am_nil)) (em_bin op_mod om_mod (em_bin op_fdivW om_div (em_call F__law_cell_at hr (psv_of takesD) (am_cons (em_var 0) (am_cons em_int am_nil))) em_int) em_int)) am_nil) T.z_range) (gm_name 3 sc__law_rules.nd) (ssm_one (sm_drop (em_m PySem.F.plainAttrs_list PySem.F.slot_list_append PySem.F.type_list_append mt_append me_append (em_var 2) (am_cons (em_call F__law_rule hr (psv_of takesD) (am_cons (em_call F__law_cell_at hr (psv_of takesD) (am_cons (em_var 0) (am_cons (em_bin op_addAll om_add em_int (em_var 3)) am_nil))) (am_cons (em_var 3) (am_cons (em_var 1) am_nil)))) am_nil)))))
    (ssm_fz 2 (ssm_one (sm_ret (em_var 2)))))))
abbrev s__law_odd : Stmt := top 33
theorem sc__law_odd : FnScope ["cell", "some"] ["cell"] (defScope s__law_odd) := ⟨rfl, rfl, rfl, by decide +kernel, rfl, by decide +kernel, by decide +kernel⟩
theorem by__law_odd (T : Tx K mg C_Endless C_GroveError C_NoGrammar C_NoOrder C_NoReading C_NoText C_TooMany)  : Body P w K mg base ["cell", "some"] "_law_odd" s__law_odd 0 b__law_odd := fun f cdv A outer s H E hr =>
  (ssm_cons (sm_set 1 sc__law_odd.nd (em_lst (am_cons em_str (am_cons em_str (am_cons em_str (am_cons em_str (am_cons em_str (am_cons em_str (am_cons em_str (am_cons em_str (am_cons em_str (am_cons em_str (am_cons em_str am_nil)))))))))))))
    (ssm_cons (sm_set 1 sc__law_odd.nd (em_bin op_addAll om_add (em_var 1) (em_lst (am_cons em_str (am_cons em_str (am_cons em_str (am_cons em_str (am_cons em_str (am_cons em_str (am_cons em_str (am_cons em_str am_nil)))))))))))
    (ssm_cons (sm_set 1 sc__law_odd.nd (em_bin op_addAll om_add (em_var 1) (em_lst (am_cons em_str (am_cons em_str (am_cons em_str (am_cons em_str (am_cons em_str (am_cons em_str am_nil)))))))))
    (ssm_cons (sm_set 1 sc__law_odd.nd (em_bin op_addAll om_add (em_var 1) (em_lst (am_cons em_str (am_cons em_str (am_cons em_str am_nil))))))
    (ssm_one (sm_ret (em_ix ix_seq om_ix (em_var 1) (em_bin op_mod om_mod (em_var 0) em_int))))))))
abbrev s__law_long : Stmt := top 34
theorem sc__law_long : FnScope ["cell", "figures"] ["cell"] (defScope s__law_long) := ⟨rfl, rfl, rfl, by decide +kernel, rfl, by decide +kernel, by decide +kernel⟩
theorem by__law_long (T : Tx K mg C_Endless C_GroveError C_NoGrammar C_NoOrder C_NoReading C_NoText C_TooMany)  : Body P w K mg base ["cell", "figures"] "_law_long" s__law_long 0 b__law_long := fun f cdv A outer s H E hr =>
  (ssm_cons (sm_set 1 sc__law_long.nd (em_bin op_addAll om_add em_str (em_bin op_mulAll om_mulS em_str (em_bin op_addAll om_add em_int (em_bin op_mod om_mod (em_var 0) em_int)))))
    (ssm_one (sm_ret (em_ix ix_seq om_ix (em_lst (am_cons (em_bin op_addAll om_add em_str (em_var 1)) (am_cons em_str (am_cons em_str (am_cons em_str am_nil))))) (em_bin op_mod om_mod (em_bin op_fdivW om_div (em_var 0) em_int) em_int)))))
abbrev s__law_text : Stmt := top 35
theorem sc__law_text : FnScope ["script", "rows", "way", "cell", "place", "at", "text", "sign"] ["script"] (defScope s__law_text) := ⟨rfl, rfl, rfl, by decide +kernel, rfl, by decide +kernel, by decide +kernel⟩
theorem by__law_text (T : Tx K mg C_Endless C_GroveError C_NoGrammar C_NoOrder C_NoReading C_NoText C_TooMany) (F__law_cell_at : FnM P w K mg base 1 "_law_cell_at" 2 m__law_cell_at) (F__law_shown : FnM P w K mg base 1 "_law_shown" 1 m__law_shown) (F__law_rules : FnM P w K mg base 3 "_law_rules" 1 m__law_rules) (F__law_odd : FnM P w K mg base 1 "_law_odd" 1 m__law_odd) (F__law_long : FnM P w K mg base 1 "_law_long" 1 m__law_long) : Body P w K mg base ["script", "rows", "way", "cell", "place", "at", "text", "sign"] "_law_text" s__law_text 3 b__law_text := fun f cdv A outer s H E hr =>
  (ssm_cons (sm_set 1 sc__law_text.nd (em_m PySem.F.plainAttrs_str PySem.F.slot_str_split PySem.F.type_str_split mt_split me_split (em_call F__law_shown hr (psv_of takesD) (am_cons (em_call F__law_rules hr (psv_of takesD) (am_cons (em_var 0) am_nil)) am_nil)) (am_cons em_str am_nil)))
    (ssm_cons (sm_set 2 sc__law_text.nd (em_bin op_mod om_mod (em_bin op_fdivW om_div (em_call F__law_cell_at hr (psv_of takesD) (am_cons (em_var 0) (am_cons em_int am_nil))) em_int) em_int))
    (ssm_cons (sm_set 3 sc__law_text.nd (em_call F__law_cell_at hr (psv_of takesD) (am_cons (em_var 0) (am_cons em_int am_nil))))
    (ssm_cons (sm_set 4 sc__law_text.nd (em_call F__law_cell_at hr (psv_of takesD) (am_cons (em_var 0) (am_cons em_int am_nil))))
    (ssm_cons (sm_if (tm_cmp op_lt om_cmp (em_var 2) em_int) (ssm_cons (sm_set 5 sc__law_text.nd (em_bin op_mod om_mod (em_var 4) (em_bin op_addAll om_add (em_len T.z_len (am_cons (em_var 1) am_nil)) em_int)))
    (ssm_one (sm_set 1 sc__law_text.nd (em_bin op_addAll om_add (em_bin op_addAll om_add (em_slice (em_var 1) om_none (om_some (em_var 5))) (em_lst (am_cons (em_callV (tabL_cons (P := fun x fm => FnM P w K mg base 1 x 1 fm) (F__law_odd.mono (by decide)) (tabL_cons (P := fun x fm => FnM P w K mg base 1 x 1 fm) (F__law_long.mono (by decide)) tabL_nil)) hr (psv_of takesD) (em_ix ix_seq om_ix (em_lst (am_cons (em_gfnF F__law_odd) (am_cons (em_gfnF F__law_long) am_nil))) (em_var 2)) (am_cons (em_var 3) am_nil)) am_nil))) (em_slice (em_var 1) (om_some (em_var 5)) om_none))))) ssm_nil)
    (ssm_cons (sm_set 6 sc__law_text.nd (em_m PySem.F.plainAttrs_str PySem.F.slot_str_join PySem.F.type_str_join mt_join me_join em_str (am_cons (em_var 1) am_nil)))
    (ssm_cons (sm_set 7 sc__law_text.nd (em_ix ix_seq om_ix em_str (em_bin op_mod om_mod (em_bin op_fdivW om_div (em_var 3) em_int) em_int)))
    (ssm_cons (sm_set 5 sc__law_text.nd (em_bin op_mod om_mod (em_var 4) (em_bin op_addAll om_add (em_len T.z_len (am_cons (em_var 6) am_nil)) em_int)))
    (ssm_cons (sm_if (PW.pt (tw_or (tm_cmp (op_eqAll hr.units) om_eq (em_var 2) em_int) (tw_or1 (tm_cmp (op_eqAll hr.units) om_eq (em_var 2) em_int)))) (ssm_one (sm_ret (em_bin op_addAll om_add (em_bin op_addAll om_add (em_slice (em_var 6) om_none (om_some (em_var 5))) (em_var 7)) (em_slice (em_var 6) (om_some (em_var 5)) om_none)))) ssm_nil)
    (ssm_cons (sm_if (tm_cmp (op_eqAll hr.units) om_eq (em_var 2) em_int) (ssm_one (sm_ret (em_bin op_addAll om_add (em_slice (em_var 6) om_none (om_some (em_var 5))) (em_slice (em_var 6) (om_some (em_bin op_addAll om_add (em_var 5) em_int)) om_none)))) ssm_nil)
    (ssm_cons (sm_if (tm_cmp (op_eqAll hr.units) om_eq (em_var 2) em_int) (ssm_one (sm_ret (em_bin op_addAll om_add (em_bin op_addAll om_add (em_slice (em_var 6) om_none (om_some (em_var 5))) (em_var 7)) (em_slice (em_var 6) (om_some (em_bin op_addAll om_add (em_var 5) em_int)) om_none)))) ssm_nil)
    (ssm_one (sm_ret (em_var 6))))))))))))))
abbrev s__law_of : Stmt := top 36
theorem sc__law_of : FnScope ["text", "some", "most", "sign"] ["text", "some", "most"] (defScope s__law_of) := ⟨rfl, rfl, rfl, by decide +kernel, rfl, by decide +kernel, by decide +kernel⟩
theorem by__law_of (T : Tx K mg C_Endless C_GroveError C_NoGrammar C_NoOrder C_NoReading C_NoText C_TooMany)  : Body P w K mg base ["text", "some", "most", "sign"] "_law_of" s__law_of 0 b__law_of := fun f cdv A outer s H E hr =>
  (ssm_one (sm_ret (em_and (em_chain op_lt om_cmp op_le om_cmp em_int (em_len T.z_len (am_cons (em_var 0) am_nil)) (em_var 2)) (em_one (em_all rfl T.z_all (am_cons (em_comp (own := [("sign", 3)]) rfl sc__law_of.nd (im_of (em_var 0)) (blkOk_by (by rfl)) (fun _ _ _ _ _ => (gm_name 3 sc__law_of.nd)) (fun _ _ _ _ _ => tms_nil) (fun _ _ _ _ _ => (em_cmp (op_inAll (room65 hr)) om_in (em_var 3) (em_var 1)))) am_nil))))))
abbrev s__law_is_head : Stmt := top 37
theorem sc__law_is_head : FnScope ["word", "letters", "stroke", "figures", "good"] ["word"] (defScope s__law_is_head) := ⟨rfl, rfl, rfl, by decide +kernel, rfl, by decide +kernel, by decide +kernel⟩
theorem by__law_is_head (T : Tx K mg C_Endless C_GroveError C_NoGrammar C_NoOrder C_NoReading C_NoText C_TooMany) (F__law_of : FnM P w K mg base 1 "_law_of" 3 m__law_of) : Body P w K mg base ["word", "letters", "stroke", "figures", "good"] "_law_is_head" s__law_is_head 1 b__law_is_head := fun f cdv A outer s H E hr =>
  (ssm_cons (sm_asg (em_m PySem.F.plainAttrs_str PySem.F.slot_str_partition PySem.F.type_str_partition mt_partition me_partition (em_var 0) (am_cons em_str am_nil)) (gm_tup rfl (gms_cons (gm_name 1 sc__law_is_head.nd) (gms_cons (gm_name 2 sc__law_is_head.nd) (gms_cons (gm_name 3 sc__law_is_head.nd) gms_nil)))))
    (ssm_cons (sm_set 4 sc__law_is_head.nd (em_call F__law_of hr (psv_of takesD) (am_cons (em_var 1) (am_cons em_str (am_cons em_int am_nil)))))
    (ssm_one (sm_ret (em_and (em_var 4) (em_one (em_or (em_cmp (op_eqAll hr.units) om_eq (em_var 2) em_str) (em_one (em_call F__law_of hr (psv_of takesD) (am_cons (em_var 3) (am_cons em_str (am_cons em_int am_nil))))))))))))
abbrev s__law_row : Stmt := top 38
theorem sc__law_row : FnScope ["row", "words", "word"] ["row"] (defScope s__law_row) := ⟨rfl, rfl, rfl, by decide +kernel, rfl, by decide +kernel, by decide +kernel⟩
theorem by__law_row (T : Tx K mg C_Endless C_GroveError C_NoGrammar C_NoOrder C_NoReading C_NoText C_TooMany) (F__law_is_head : FnM P w K mg base 2 "_law_is_head" 1 m__law_is_head) (F__law_of : FnM P w K mg base 1 "_law_of" 3 m__law_of) : Body P w K mg base ["row", "words", "word"] "_law_row" s__law_row 2 b__law_row := fun f cdv A outer s H E hr =>
  (ssm_cons (sm_set 1 sc__law_row.nd (em_m PySem.F.plainAttrs_str PySem.F.slot_str_split PySem.F.type_str_split mt_split me_split (em_var 0) (am_cons em_str am_nil)))
    (ssm_cons (sm_if (PW.pt (tw_and (tm_cmp op_gt om_cmp (em_len T.z_len (am_cons (em_var 1) am_nil)) em_int) (tw_and1 (tm_cmp (op_eqAll hr.units) om_eq (em_ix ix_seq om_ix (em_var 1) (em_neg em_int)) em_str)))) (ssm_cons (sm_if (PW.pt (tw_or (tm_not (tm_val (em_call F__law_of hr (psv_of takesD) (am_cons (em_ix ix_seq om_ix (em_var 1) (em_neg em_int)) (am_cons em_str (am_cons em_int am_nil)))))) (tw_or1 (tm_cmp (op_eqAll hr.units) om_eq (em_ix ix_seq om_ix (em_ix ix_seq om_ix (em_var 1) (em_neg em_int)) em_int) em_str)))) (ssm_one (sm_ret em_non)) ssm_nil)
    (ssm_one (sm_set 1 sc__law_row.nd (em_slice (em_var 1) om_none (om_some (em_neg em_int)))))) ssm_nil)
    (ssm_cons (sm_if (PW.pt (tw_or (tm_cmp op_lt om_cmp (em_len T.z_len (am_cons (em_var 1) am_nil)) em_int) (tw_or (tm_cmp (op_neAll hr.units) om_ne (em_ix ix_seq om_ix (em_var 1) em_int) em_str) (tw_or1 (tm_not (tm_val (em_call F__law_is_head hr (psv_of takesD) (am_cons (em_ix ix_seq om_ix (em_var 1) em_int) am_nil)))))))) (ssm_one (sm_ret em_non)) ssm_nil)
    (ssm_cons (sm_for [2] passesD rfl (im_of (em_slice (em_var 1) (om_some em_int) om_none)) (gm_name 2 sc__law_row.nd) (ssm_one (sm_if (PW.pt (tw_and (tm_not (tm_val (em_call F__law_of hr (psv_of takesD) (am_cons (em_var 2) (am_cons em_str (am_cons em_int am_nil)))))) (tw_and1 (tm_not (tm_val (em_call F__law_is_head hr (psv_of takesD) (am_cons (em_var 2) am_nil))))))) (ssm_one (sm_ret em_non)) ssm_nil)))
    (ssm_one (sm_ret (em_var 1)))))))
abbrev s__law_due : Stmt := top 39
theorem sc__law_due : FnScope ["text", "rows", "heads", "words", "word", "row"] ["text"] (defScope s__law_due) := ⟨rfl, rfl, rfl, by decide +kernel, rfl, by decide +kernel, by decide +kernel⟩
theorem by__law_due (T : Tx K mg C_Endless C_GroveError C_NoGrammar C_NoOrder C_NoReading C_NoText C_TooMany) (F__law_row : FnM P w K mg base 3 "_law_row" 1 m__law_row) (F__law_is_head : FnM P w K mg base 2 "_law_is_head" 1 m__law_is_head) : Body P w K mg base ["text", "rows", "heads", "words", "word", "row"] "_law_due" s__law_due 3 b__law_due := fun f cdv A outer s H E hr =>
  (ssm_cons (sm_setLc (own := [("row", 5)]) 1 rfl sc__law_due.nd (by rfl) (by rfl) (im_of (em_m PySem.F.plainAttrs_str PySem.F.slot_str_split PySem.F.type_str_split mt_split me_split (em_var 0) (am_cons em_str am_nil))) (blkOk_by (by rfl)) (fun _ _ _ _ _ => (gm_name 5 sc__law_due.nd)) (fun _ _ _ _ _ => tms_nil) (fun _ _ _ _ _ => (em_call F__law_row hr psv_f (am_cons (em_var 5) am_nil))))
    (ssm_cons (sm_if (tm_cmp (op_inAll (room65 hr)) om_in em_non (em_var 1)) (ssm_one (sm_ret em_str)) ssm_nil)
    (ssm_cons (sm_setLc (own := [("words", 3)]) 2 rfl sc__law_due.nd (by rfl) (by rfl) (im_of (em_var 1)) (blkOk_by (by rfl)) (fun _ _ _ _ _ => (gm_name 3 sc__law_due.nd)) (fun _ _ _ _ _ => tms_nil) (fun _ _ _ _ _ => (em_ix ix_seq om_ix (em_var 3) em_int)))
    (ssm_cons (sm_for [3, 4] passesD rfl (im_of (em_var 1)) (gm_name 3 sc__law_due.nd) (ssm_one (sm_for [4] passesD rfl (im_of (em_slice (em_var 3) (om_some em_int) om_none)) (gm_name 4 sc__law_due.nd) (ssm_one (sm_if (PW.pt (tw_and (tm_val (em_call F__law_is_head hr (psv_of takesD) (am_cons (em_var 4) am_nil))) (tw_and1 (tm_cmp (op_notInAll (room65 hr)) om_notIn (em_var 4) (em_var 2))))) (ssm_one (sm_ret em_str)) ssm_nil)))))
    (ssm_one (sm_ret em_str))))))
abbrev s_names : Stmt := top 11
theorem sc_names : FnScope ["grammar", "found", "name", "parts", "cost"] ["grammar"] (defScope s_names) := ⟨rfl, rfl, rfl, by decide +kernel, rfl, by decide +kernel, by decide +kernel⟩
theorem by_names (T : Tx K mg C_Endless C_GroveError C_NoGrammar C_NoOrder C_NoReading C_NoText C_TooMany)  : Body P w K mg base ["grammar", "found", "name", "parts", "cost"] "names" s_names 0 b_names := fun f cdv A outer s H E hr =>
  (ssm_cons (sm_set 1 sc_names.nd (em_new am_nil))
    (ssm_cons (sm_for [2, 3, 4] passesD rfl (im_of (em_var 0)) (gm_tup rfl (gms_cons (gm_name 2 sc_names.nd) (gms_cons (gm_name 3 sc_names.nd) (gms_cons (gm_name 4 sc_names.nd) gms_nil)))) (ssm_one (sm_if (tm_cmp (op_notInAll (room65 hr)) om_notIn (em_var 2) (em_var 1)) (ssm_one (sm_drop (em_m PySem.F.plainAttrs_list PySem.F.slot_list_append PySem.F.type_list_append mt_append me_append (em_var 1) (am_cons (em_var 2) am_nil)))) ssm_nil)))
    (ssm_fz 1 (ssm_one (sm_ret (em_var 1))))))
abbrev s_is_name : Stmt := top 10
theorem sc_is_name : FnScope ["part"] ["part"] (defScope s_is_name) := ⟨rfl, rfl, rfl, by decide +kernel, rfl, by decide +kernel, by decide +kernel⟩
theorem by_is_name (T : Tx K mg C_Endless C_GroveError C_NoGrammar C_NoOrder C_NoReading C_NoText C_TooMany)  : Body P w K mg base ["part"] "is_name" s_is_name 0 b_is_name := fun f cdv A outer s H E hr =>
  (ssm_one (sm_ret (em_and (em_cmp (op_neAll hr.units) om_ne (em_var 0) em_str) (em_one (em_cmp (op_inAll (room65 hr)) om_in (em_ix ix_seq om_ix (em_var 0) em_int) (em_gstrE T.g_GREAT_grammars))))))
abbrev s_grammar_of : Stmt := top 12
theorem sc_grammar_of : FnScope ["rules", "known", "name", "parts", "cost", "part"] ["rules"] (defScope s_grammar_of) := ⟨rfl, rfl, rfl, by decide +kernel, rfl, by decide +kernel, by decide +kernel⟩
theorem by_grammar_of (T : Tx K mg C_Endless C_GroveError C_NoGrammar C_NoOrder C_NoReading C_NoText C_TooMany) (F_names : FnM P w K mg base 1 "names" 1 m_names) (F_is_name : FnM P w K mg base 1 "is_name" 1 m_is_name) : Body P w K mg base ["rules", "known", "name", "parts", "cost", "part"] "grammar_of" s_grammar_of 1 b_grammar_of := fun f cdv A outer s H E hr =>
  (ssm_cons (sm_if (tm_cmp (op_eqAll hr.units) om_eq (em_var 0) (em_lst am_nil)) (ssm_one (sm_raise rfl takesD T.e_NoGrammar)) ssm_nil)
    (ssm_cons (sm_set 1 sc_grammar_of.nd (em_call F_names hr (psv_of takesD) (am_cons (em_var 0) am_nil)))
    (ssm_cons (sm_for [2, 3, 4, 5] passesD rfl (im_of (em_var 0)) (gm_tup rfl (gms_cons (gm_name 2 sc_grammar_of.nd) (gms_cons (gm_name 3 sc_grammar_of.nd) (gms_cons (gm_name 4 sc_grammar_of.nd) gms_nil)))) (ssm_cons (sm_if (tm_cmp op_lt om_cmp (em_var 4) em_int) (ssm_one (sm_raise rfl takesD T.e_NoGrammar)) ssm_nil)
    (ssm_one (sm_for [5] passesD rfl (im_of (em_var 3)) (gm_name 5 sc_grammar_of.nd) (ssm_one (sm_if (PW.pt (tw_and (tm_val (em_call F_is_name hr (psv_of takesD) (am_cons (em_var 5) am_nil))) (tw_and1 (tm_cmp (op_notInAll (room65 hr)) om_notIn (em_var 5) (em_var 1))))) (ssm_one (sm_raise rfl takesD T.e_NoGrammar)) ssm_nil))))))
    (ssm_one (sm_ret (em_comp (own := [("name", 2), ("parts", 3), ("cost", 4)]) rfl sc_grammar_of.nd (im_of (em_var 0)) (blkOk_by (by rfl)) (fun _ _ _ _ _ => (gm_tup rfl (gms_cons (gm_name 2 sc_grammar_of.nd) (gms_cons (gm_name 3 sc_grammar_of.nd) (gms_cons (gm_name 4 sc_grammar_of.nd) gms_nil))))) (fun _ _ _ _ _ => tms_nil) (fun _ _ _ _ _ => (em_tup (am_cons (em_var 2) (am_cons (em_tuple T.z_tuple (am_cons (em_var 3) am_nil)) (am_cons (em_var 4) am_nil)))))))))))
abbrev s_cost_of : Stmt := top 23
theorem sc_cost_of : FnScope ["text", "sign"] ["text"] (defScope s_cost_of) := ⟨rfl, rfl, rfl, by decide +kernel, rfl, by decide +kernel, by decide +kernel⟩
theorem by_cost_of (T : Tx K mg C_Endless C_GroveError C_NoGrammar C_NoOrder C_NoReading C_NoText C_TooMany)  : Body P w K mg base ["text", "sign"] "cost_of" s_cost_of 0 b_cost_of := fun f cdv A outer s H E hr =>
  (ssm_cons (sm_if (PW.pt (tw_or (tm_cmp (op_eqAll hr.units) om_eq (em_var 0) em_str) (tw_or (tm_cmp op_gt om_cmp (em_len T.z_len (am_cons (em_var 0) am_nil)) (em_gintE T.g_MOST_FIGURES)) (tw_or1 (tm_cmp (op_eqAll hr.units) om_eq (em_ix ix_seq om_ix (em_var 0) em_int) em_str))))) (ssm_one (sm_raise rfl takesD T.e_NoText)) ssm_nil)
    (ssm_cons (sm_for [1] passesD rfl (im_of (em_var 0)) (gm_name 1 sc_cost_of.nd) (ssm_one (sm_if (tm_cmp (op_notInAll (room65 hr)) om_notIn (em_var 1) (em_gstrE T.g_FIGURES)) (ssm_one (sm_raise rfl takesD T.e_NoText)) ssm_nil)))
    (ssm_one (sm_ret (em_intS T.z_int (am_cons (em_var 0) am_nil))))))
abbrev s_made_of : Stmt := top 22
theorem sc_made_of : FnScope ["text", "signs", "sign"] ["text", "signs"] (defScope s_made_of) := ⟨rfl, rfl, rfl, by decide +kernel, rfl, by decide +kernel, by decide +kernel⟩
theorem by_made_of (T : Tx K mg C_Endless C_GroveError C_NoGrammar C_NoOrder C_NoReading C_NoText C_TooMany)  : Body P w K mg base ["text", "signs", "sign"] "made_of" s_made_of 0 b_made_of := fun f cdv A outer s H E hr =>
  (ssm_cons (sm_if (PW.pt (tw_or (tm_cmp (op_eqAll hr.units) om_eq (em_var 0) em_str) (tw_or1 (tm_cmp op_gt om_cmp (em_len T.z_len (am_cons (em_var 0) am_nil)) (em_gintE T.g_LONGEST))))) (ssm_one (sm_ret em_bl)) ssm_nil)
    (ssm_one (sm_ret (em_all rfl T.z_all (am_cons (em_comp (own := [("sign", 2)]) rfl sc_made_of.nd (im_of (em_var 0)) (blkOk_by (by rfl)) (fun _ _ _ _ _ => (gm_name 2 sc_made_of.nd)) (fun _ _ _ _ _ => tms_nil) (fun _ _ _ _ _ => (em_cmp (op_inAll (room65 hr)) om_in (em_var 2) (em_var 1)))) am_nil)))))
abbrev s_is_name_text : Stmt := top 21
theorem sc_is_name_text : FnScope ["text", "letters", "stroke", "figures"] ["text"] (defScope s_is_name_text) := ⟨rfl, rfl, rfl, by decide +kernel, rfl, by decide +kernel, by decide +kernel⟩
theorem by_is_name_text (T : Tx K mg C_Endless C_GroveError C_NoGrammar C_NoOrder C_NoReading C_NoText C_TooMany) (F_made_of : FnM P w K mg base 1 "made_of" 2 m_made_of) : Body P w K mg base ["text", "letters", "stroke", "figures"] "is_name_text" s_is_name_text 1 b_is_name_text := fun f cdv A outer s H E hr =>
  (ssm_cons (sm_asg (em_m PySem.F.plainAttrs_str PySem.F.slot_str_partition PySem.F.type_str_partition mt_partition me_partition (em_var 0) (am_cons em_str am_nil)) (gm_tup rfl (gms_cons (gm_name 1 sc_is_name_text.nd) (gms_cons (gm_name 2 sc_is_name_text.nd) (gms_cons (gm_name 3 sc_is_name_text.nd) gms_nil)))))
    (ssm_cons (sm_if (tm_not (tm_val (em_call F_made_of hr (psv_of takesD) (am_cons (em_var 1) (am_cons (em_gstrE T.g_GREAT_texts) am_nil))))) (ssm_one (sm_ret em_bl)) ssm_nil)
    (ssm_cons (sm_if (tm_cmp (op_eqAll hr.units) om_eq (em_var 2) em_str) (ssm_one (sm_ret em_bl)) ssm_nil)
    (ssm_one (sm_ret (em_and (em_call F_made_of hr (psv_of takesD) (am_cons (em_var 3) (am_cons (em_gstrE T.g_FIGURES) am_nil))) (em_one (em_cmp op_le om_cmp (em_len T.z_len (am_cons (em_var 3) am_nil)) em_int))))))))
abbrev s_read_rule : Stmt := top 24
theorem sc_read_rule : FnScope ["text", "words", "cost", "word"] ["text"] (defScope s_read_rule) := ⟨rfl, rfl, rfl, by decide +kernel, rfl, by decide +kernel, by decide +kernel⟩
theorem by_read_rule (T : Tx K mg C_Endless C_GroveError C_NoGrammar C_NoOrder C_NoReading C_NoText C_TooMany) (F_cost_of : FnM P w K mg base 1 "cost_of" 1 m_cost_of) (F_is_name_text : FnM P w K mg base 2 "is_name_text" 1 m_is_name_text) (F_made_of : FnM P w K mg base 1 "made_of" 2 m_made_of) : Body P w K mg base ["text", "words", "cost", "word"] "read_rule" s_read_rule 2 b_read_rule := fun f cdv A outer s H E hr =>
  (ssm_cons (sm_set 1 sc_read_rule.nd (em_m PySem.F.plainAttrs_str PySem.F.slot_str_split PySem.F.type_str_split mt_split me_split (em_var 0) (am_cons em_str am_nil)))
    (ssm_cons (sm_set 2 sc_read_rule.nd em_int)
    (ssm_cons (sm_if (PW.pt (tw_and (tm_cmp op_gt om_cmp (em_len T.z_len (am_cons (em_var 1) am_nil)) em_int) (tw_and1 (tm_cmp (op_eqAll hr.units) om_eq (em_ix ix_seq om_ix (em_var 1) (em_neg em_int)) em_str)))) (ssm_cons (sm_set 2 sc_read_rule.nd (em_call F_cost_of hr (psv_of takesD) (am_cons (em_ix ix_seq om_ix (em_var 1) (em_neg em_int)) am_nil)))
    (ssm_one (sm_set 1 sc_read_rule.nd (em_slice (em_var 1) om_none (om_some (em_neg em_int)))))) ssm_nil)
    (ssm_cons (sm_if (PW.pt (tw_or (tm_cmp op_lt om_cmp (em_len T.z_len (am_cons (em_var 1) am_nil)) em_int) (tw_or (tm_cmp (op_neAll hr.units) om_ne (em_ix ix_seq om_ix (em_var 1) em_int) em_str) (tw_or1 (tm_not (tm_val (em_call F_is_name_text hr (psv_of takesD) (am_cons (em_ix ix_seq om_ix (em_var 1) em_int) am_nil)))))))) (ssm_one (sm_raise rfl takesD T.e_NoText)) ssm_nil)
    (ssm_cons (sm_for [3] passesD rfl (im_of (em_slice (em_var 1) (om_some em_int) om_none)) (gm_name 3 sc_read_rule.nd) (ssm_one (sm_if (PW.pt (tw_and (tm_not (tm_val (em_call F_made_of hr (psv_of takesD) (am_cons (em_var 3) (am_cons (em_gstrE T.g_SMALL) am_nil))))) (tw_and1 (tm_not (tm_val (em_call F_is_name_text hr (psv_of takesD) (am_cons (em_var 3) am_nil))))))) (ssm_one (sm_raise rfl takesD T.e_NoText)) ssm_nil)))
    (ssm_one (sm_ret (em_tup (am_cons (em_ix ix_seq om_ix (em_var 1) em_int) (am_cons (em_tuple T.z_tuple (am_cons (em_slice (em_var 1) (om_some em_int) om_none) am_nil)) (am_cons (em_var 2) am_nil)))))))))))
abbrev s_read_grammar : Stmt := top 25
theorem sc_read_grammar : FnScope ["text", "row"] ["text"] (defScope s_read_grammar) := ⟨rfl, rfl, rfl, by decide +kernel, rfl, by decide +kernel, by decide +kernel⟩
theorem by_read_grammar (T : Tx K mg C_Endless C_GroveError C_NoGrammar C_NoOrder C_NoReading C_NoText C_TooMany) (F_grammar_of : FnM P w K mg base 2 "grammar_of" 1 m_grammar_of) (F_read_rule : FnM P w K mg base 3 "read_rule" 1 m_read_rule) : Body P w K mg base ["text", "row"] "read_grammar" s_read_grammar 3 b_read_grammar := fun f cdv A outer s H E hr =>
  (ssm_one (sm_ret (em_call F_grammar_of hr (psv_of takesD) (am_cons (em_compX (own := [("row", 1)]) rfl sc_read_grammar.nd rfl rfl takesD (im_of (em_m PySem.F.plainAttrs_str PySem.F.slot_str_split PySem.F.type_str_split mt_split me_split (em_var 0) (am_cons em_str am_nil))) (blkOk_by (by rfl)) (fun _ _ _ _ _ _ => (gm_name 1 sc_read_grammar.nd)) (fun _ _ _ _ _ _ _ hp => (em_call F_read_rule hr hp (am_cons (em_var 1) am_nil)))) am_nil))))
abbrev s__law_kinds : Stmt := top 40
theorem sc__law_kinds : FnScope ["e", "kinds"] ["e"] (defScope s__law_kinds) := ⟨rfl, rfl, rfl, by decide +kernel, rfl, by decide +kernel, by decide +kernel⟩
theorem by__law_kinds (T : Tx K mg C_Endless C_GroveError C_NoGrammar C_NoOrder C_NoReading C_NoText C_TooMany)  : Body P w K mg base ["e", "kinds"] "_law_kinds" s__law_kinds 0 b__law_kinds := fun f cdv A outer s H E hr =>
  (ssm_cons (sm_set 1 sc__law_kinds.nd (em_lst (am_cons (em_isa (em_var 0) (pe_glob (v := .ref C_NoText) rfl T.m_NoText rfl) (ClsV.own C_NoText) (tabS_cons (P := fun t b => PySem.W.kitOne K (.type t) (.ref C_NoText) = some b) T.k_NoneType_NoText tabS_nil) (fun c b C h hC => (tabL_cons (P := fun c b => ∀ C, mg c = some (.ref C) → ExcC K C ∧ PySem.W.kitOne K (.ref C) (.ref C_NoText) = some b) (fun C hC => by cases T.m_NoGrammar.symm.trans hC; exact ⟨T.x_NoGrammar, T.k_NoGrammar_NoText⟩) (tabL_cons (P := fun c b => ∀ C, mg c = some (.ref C) → ExcC K C ∧ PySem.W.kitOne K (.ref C) (.ref C_NoText) = some b) (fun C hC => by cases T.m_NoText.symm.trans hC; exact ⟨T.x_NoText, T.k_NoText_NoText⟩) tabL_nil)) c b h C hC) T.z_isinstance) (am_cons (em_isa (em_var 0) (pe_glob (v := .ref C_NoGrammar) rfl T.m_NoGrammar rfl) (ClsV.own C_NoGrammar) (tabS_cons (P := fun t b => PySem.W.kitOne K (.type t) (.ref C_NoGrammar) = some b) T.k_NoneType_NoGrammar tabS_nil) (fun c b C h hC => (tabL_cons (P := fun c b => ∀ C, mg c = some (.ref C) → ExcC K C ∧ PySem.W.kitOne K (.ref C) (.ref C_NoGrammar) = some b) (fun C hC => by cases T.m_NoGrammar.symm.trans hC; exact ⟨T.x_NoGrammar, T.k_NoGrammar_NoGrammar⟩) (tabL_cons (P := fun c b => ∀ C, mg c = some (.ref C) → ExcC K C ∧ PySem.W.kitOne K (.ref C) (.ref C_NoGrammar) = some b) (fun C hC => by cases T.m_NoText.symm.trans hC; exact ⟨T.x_NoText, T.k_NoText_NoGrammar⟩) tabL_nil)) c b h C hC) T.z_isinstance) (am_cons (em_isa (em_var 0) (pe_glob (v := .ref C_Endless) rfl T.m_Endless rfl) (ClsV.own C_Endless) (tabS_cons (P := fun t b => PySem.W.kitOne K (.type t) (.ref C_Endless) = some b) T.k_NoneType_Endless tabS_nil) (fun c b C h hC => (tabL_cons (P := fun c b => ∀ C, mg c = some (.ref C) → ExcC K C ∧ PySem.W.kitOne K (.ref C) (.ref C_Endless) = some b) (fun C hC => by cases T.m_NoGrammar.symm.trans hC; exact ⟨T.x_NoGrammar, T.k_NoGrammar_Endless⟩) (tabL_cons (P := fun c b => ∀ C, mg c = some (.ref C) → ExcC K C ∧ PySem.W.kitOne K (.ref C) (.ref C_Endless) = some b) (fun C hC => by cases T.m_NoText.symm.trans hC; exact ⟨T.x_NoText, T.k_NoText_Endless⟩) tabL_nil)) c b h C hC) T.z_isinstance) (am_cons (em_isa (em_var 0) (pe_glob (v := .ref C_NoOrder) rfl T.m_NoOrder rfl) (ClsV.own C_NoOrder) (tabS_cons (P := fun t b => PySem.W.kitOne K (.type t) (.ref C_NoOrder) = some b) T.k_NoneType_NoOrder tabS_nil) (fun c b C h hC => (tabL_cons (P := fun c b => ∀ C, mg c = some (.ref C) → ExcC K C ∧ PySem.W.kitOne K (.ref C) (.ref C_NoOrder) = some b) (fun C hC => by cases T.m_NoGrammar.symm.trans hC; exact ⟨T.x_NoGrammar, T.k_NoGrammar_NoOrder⟩) (tabL_cons (P := fun c b => ∀ C, mg c = some (.ref C) → ExcC K C ∧ PySem.W.kitOne K (.ref C) (.ref C_NoOrder) = some b) (fun C hC => by cases T.m_NoText.symm.trans hC; exact ⟨T.x_NoText, T.k_NoText_NoOrder⟩) tabL_nil)) c b h C hC) T.z_isinstance) am_nil))))))
    (ssm_one (sm_ret (em_bin op_addAll om_add (em_var 1) (em_lst (am_cons (em_isa (em_var 0) (pe_glob (v := .ref C_NoReading) rfl T.m_NoReading rfl) (ClsV.own C_NoReading) (tabS_cons (P := fun t b => PySem.W.kitOne K (.type t) (.ref C_NoReading) = some b) T.k_NoneType_NoReading tabS_nil) (fun c b C h hC => (tabL_cons (P := fun c b => ∀ C, mg c = some (.ref C) → ExcC K C ∧ PySem.W.kitOne K (.ref C) (.ref C_NoReading) = some b) (fun C hC => by cases T.m_NoGrammar.symm.trans hC; exact ⟨T.x_NoGrammar, T.k_NoGrammar_NoReading⟩) (tabL_cons (P := fun c b => ∀ C, mg c = some (.ref C) → ExcC K C ∧ PySem.W.kitOne K (.ref C) (.ref C_NoReading) = some b) (fun C hC => by cases T.m_NoText.symm.trans hC; exact ⟨T.x_NoText, T.k_NoText_NoReading⟩) tabL_nil)) c b h C hC) T.z_isinstance) (am_cons (em_isa (em_var 0) (pe_glob (v := .ref C_TooMany) rfl T.m_TooMany rfl) (ClsV.own C_TooMany) (tabS_cons (P := fun t b => PySem.W.kitOne K (.type t) (.ref C_TooMany) = some b) T.k_NoneType_TooMany tabS_nil) (fun c b C h hC => (tabL_cons (P := fun c b => ∀ C, mg c = some (.ref C) → ExcC K C ∧ PySem.W.kitOne K (.ref C) (.ref C_TooMany) = some b) (fun C hC => by cases T.m_NoGrammar.symm.trans hC; exact ⟨T.x_NoGrammar, T.k_NoGrammar_TooMany⟩) (tabL_cons (P := fun c b => ∀ C, mg c = some (.ref C) → ExcC K C ∧ PySem.W.kitOne K (.ref C) (.ref C_TooMany) = some b) (fun C hC => by cases T.m_NoText.symm.trans hC; exact ⟨T.x_NoText, T.k_NoText_TooMany⟩) tabL_nil)) c b h C hC) T.z_isinstance) am_nil)))))))
abbrev s_shown_rule : Stmt := top 19
theorem sc_shown_rule : FnScope ["rule", "name", "parts", "cost", "words"] ["rule"] (defScope s_shown_rule) := ⟨rfl, rfl, rfl, by decide +kernel, rfl, by decide +kernel, by decide +kernel⟩
theorem by_shown_rule (T : Tx K mg C_Endless C_GroveError C_NoGrammar C_NoOrder C_NoReading C_NoText C_TooMany)  : Body P w K mg base ["rule", "name", "parts", "cost", "words"] "shown_rule" s_shown_rule 0 b_shown_rule := fun f cdv A outer s H E hr =>
  (ssm_cons (sm_asg (em_var 0) (gm_tup rfl (gms_cons (gm_name 1 sc_shown_rule.nd) (gms_cons (gm_name 2 sc_shown_rule.nd) (gms_cons (gm_name 3 sc_shown_rule.nd) gms_nil)))))
    (ssm_cons (sm_set 4 sc_shown_rule.nd (em_bin op_addAll om_add (em_lst (am_cons (em_var 1) (am_cons em_str am_nil))) (em_list T.z_list (am_cons (em_var 2) am_nil))))
    (ssm_cons (sm_if (tm_cmp op_gt om_cmp (em_var 3) em_int) (ssm_one (sm_set 4 sc_shown_rule.nd (em_bin op_addAll om_add (em_var 4) (em_lst (am_cons em_str (am_cons (em_strI T.z_str (am_cons (em_var 3) am_nil)) am_nil)))))) ssm_nil)
    (ssm_one (sm_ret (em_m PySem.F.plainAttrs_str PySem.F.slot_str_join PySem.F.type_str_join mt_join me_join em_str (am_cons (em_var 4) am_nil)))))))
abbrev s_shown_grammar : Stmt := top 20
theorem sc_shown_grammar : FnScope ["grammar", "rule"] ["grammar"] (defScope s_shown_grammar) := ⟨rfl, rfl, rfl, by decide +kernel, rfl, by decide +kernel, by decide +kernel⟩
theorem by_shown_grammar (T : Tx K mg C_Endless C_GroveError C_NoGrammar C_NoOrder C_NoReading C_NoText C_TooMany) (F_shown_rule : FnM P w K mg base 1 "shown_rule" 1 m_shown_rule) : Body P w K mg base ["grammar", "rule"] "shown_grammar" s_shown_grammar 1 b_shown_grammar := fun f cdv A outer s H E hr =>
  (ssm_one (sm_ret (em_m PySem.F.plainAttrs_str PySem.F.slot_str_join PySem.F.type_str_join mt_join me_join em_str (am_cons (em_comp (own := [("rule", 1)]) rfl sc_shown_grammar.nd (im_of (em_var 0)) (blkOk_by (by rfl)) (fun _ _ _ _ _ => (gm_name 1 sc_shown_grammar.nd)) (fun _ _ _ _ _ => tms_nil) (fun _ _ _ _ _ => (em_call F_shown_rule hr psv_f (am_cons (em_var 1) am_nil)))) am_nil))))
abbrev s_law : Stmt := top 41
theorem sc_law : FnScope ["script", "text", "told", "caught", "e", "due"] ["script"] (defScope s_law) := ⟨rfl, rfl, rfl, by decide +kernel, rfl, by decide +kernel, by decide +kernel⟩
theorem by_law (T : Tx K mg C_Endless C_GroveError C_NoGrammar C_NoOrder C_NoReading C_NoText C_TooMany) (F__law_text : FnM P w K mg base 4 "_law_text" 1 m__law_text) (F__law_due : FnM P w K mg base 4 "_law_due" 1 m__law_due) (F_read_grammar : FnM P w K mg base 4 "read_grammar" 1 m_read_grammar) (F__law_kinds : FnM P w K mg base 1 "_law_kinds" 1 m__law_kinds) (F_shown_grammar : FnM P w K mg base 2 "shown_grammar" 1 m_shown_grammar) : Body P w K mg base ["script", "text", "told", "caught", "e", "due"] "law" s_law 4 b_law := fun f cdv A outer s H E hr =>
  (ssm_cons (sm_set 1 sc_law.nd (em_call F__law_text hr (psv_of takesD) (am_cons (em_var 0) am_nil)))
    (ssm_cons (sm_set 2 sc_law.nd em_non)
    (ssm_cons (sm_set 3 sc_law.nd em_non)
    (ssm_cons (sm_try (tabL [("NoGrammar", true), ("NoText", true)]) (i := 4) (j := 3) (c := (.ref C_GroveError)) rfl rfl rfl sc_law.nd (by decide) ⟨rfl, by decide, .inl T.m_GroveError⟩ takesD (fun k b C h hC => (tabL_cons (P := fun c b => ∀ C, mg c = some (.ref C) → PySem.W.exmOne K (.ref C) (.ref C_GroveError) = some b) (fun C hC => by cases T.m_NoGrammar.symm.trans hC; exact T.q_NoGrammar_GroveError) (tabL_cons (P := fun c b => ∀ C, mg c = some (.ref C) → PySem.W.exmOne K (.ref C) (.ref C_GroveError) = some b) (fun C hC => by cases T.m_NoText.symm.trans hC; exact T.q_NoText_GroveError) tabL_nil)) k b h C hC) (fun W pn xe tk po => (ssm_one (sm_set 2 sc_law.nd (em_call F_read_grammar hr (psv_of tk) (am_cons (em_var 1) am_nil))))))
    (ssm_cons (sm_set 5 sc_law.nd (em_call F__law_due hr (psv_of takesD) (am_cons (em_var 1) am_nil)))
    (ssm_cons (sm_if (tm_cmp (op_eqAll hr.units) om_eq (em_var 5) em_str) (ssm_one (sm_ret (em_and (em_cmp op_isN om_isN (em_var 3) em_non) (em_and (em_isa (em_var 2) (pe_bltn (v := .ty "list") rfl T.z_list (by decide +kernel) rfl) (ClsV.ty "list") (tabS_cons (P := fun t b => PySem.W.kitOne K (.type t) (.type "list") = some b) T.k_NoneType_list (tabS_cons (P := fun t b => PySem.W.kitOne K (.type t) (.type "list") = some b) T.k_list_list (tabS_cons (P := fun t b => PySem.W.kitOne K (.type t) (.type "list") = some b) T.k_tuple_list (tabS_cons (P := fun t b => PySem.W.kitOne K (.type t) (.type "list") = some b) T.k_str_list (tabS_cons (P := fun t b => PySem.W.kitOne K (.type t) (.type "list") = some b) T.k_int_list tabS_nil))))) (fun c b C h hC => by cases h) T.z_isinstance) (em_one (em_cmp (op_eqAll hr.units) om_eq (em_call F_shown_grammar hr (psv_of takesD) (am_cons (em_var 2) am_nil)) (em_var 1))))))) ssm_nil)
    (ssm_cons (sm_if (tm_not (tm_val (em_isa (em_var 3) (pe_bltn (v := .ty "ValueError") rfl T.z_ValueError (by decide +kernel) rfl) (ClsV.ty "ValueError") (tabS_cons (P := fun t b => PySem.W.kitOne K (.type t) (.type "ValueError") = some b) T.k_NoneType_ValueError tabS_nil) (fun c b C h hC => (tabL_cons (P := fun c b => ∀ C, mg c = some (.ref C) → ExcC K C ∧ PySem.W.kitOne K (.ref C) (.type "ValueError") = some b) (fun C hC => by cases T.m_NoGrammar.symm.trans hC; exact ⟨T.x_NoGrammar, T.k_NoGrammar_ValueError⟩) (tabL_cons (P := fun c b => ∀ C, mg c = some (.ref C) → ExcC K C ∧ PySem.W.kitOne K (.ref C) (.type "ValueError") = some b) (fun C hC => by cases T.m_NoText.symm.trans hC; exact ⟨T.x_NoText, T.k_NoText_ValueError⟩) tabL_nil)) c b h C hC) T.z_isinstance))) (ssm_one (sm_ret em_bl)) ssm_nil)
    (ssm_one (sm_ret (em_cmp (op_eqAll hr.units) om_eq (em_call F__law_kinds hr (psv_of takesD) (am_cons (em_var 3) am_nil)) (em_lst (am_cons (em_cmp (op_eqAll hr.units) om_eq (em_var 5) em_str) (am_cons (em_cmp (op_eqAll hr.units) om_eq (em_var 5) em_str) (am_cons em_bl (am_cons em_bl (am_cons em_bl (am_cons em_bl am_nil)))))))))))))))))
end
theorem all_mk {l : PySem.W.OpenLaw} {w : World} {K : PySem.W.Frag} {h : Heap} {mg : PySem.Str → Option Value} {fa C_Endless C_GroveError C_NoGrammar C_NoOrder C_NoReading C_NoText C_TooMany : Addr} (X : K.In h) (G : h.Ns mainGlobals mg) (hfa : mg "law" = some (.ref fa))
    {f__law_cell_at : Addr} {oc__law_cell_at kV__law_cell_at dc__law_cell_at pm__law_cell_at cd__law_cell_at ct__law_cell_at : Value} {od__law_cell_at an__law_cell_at : Option Addr} {sl__law_cell_at : Array (Option Value)} (a__law_cell_at : PySem.W.nsIn K mainGlobals "_law_cell_at" = some (some (.ref f__law_cell_at)))
    (l__law_cell_at : K.lookup f__law_cell_at = some ⟨oc__law_cell_at, od__law_cell_at, .func (PySem.W.fnOf "_law_cell_at" "_law_cell_at" (defArgs s__law_cell_at) (defBody s__law_cell_at) (defScope s__law_cell_at) .none kV__law_cell_at dc__law_cell_at pm__law_cell_at an__law_cell_at cd__law_cell_at ct__law_cell_at), sl__law_cell_at⟩) (c__law_cell_at : PySem.W.codeIn K cd__law_cell_at "_law_cell_at" = true) (k__law_cell_at : PySem.W.keepIn K (.ref f__law_cell_at) = true)
    {f__law_shown : Addr} {oc__law_shown kV__law_shown dc__law_shown pm__law_shown cd__law_shown ct__law_shown : Value} {od__law_shown an__law_shown : Option Addr} {sl__law_shown : Array (Option Value)} (a__law_shown : PySem.W.nsIn K mainGlobals "_law_shown" = some (some (.ref f__law_shown)))
    (l__law_shown : K.lookup f__law_shown = some ⟨oc__law_shown, od__law_shown, .func (PySem.W.fnOf "_law_shown" "_law_shown" (defArgs s__law_shown) (defBody s__law_shown) (defScope s__law_shown) .none kV__law_shown dc__law_shown pm__law_shown an__law_shown cd__law_shown ct__law_shown), sl__law_shown⟩) (c__law_shown : PySem.W.codeIn K cd__law_shown "_law_shown" = true) (k__law_shown : PySem.W.keepIn K (.ref f__law_shown) = true)
    {f__law_heads : Addr} {oc__law_heads kV__law_heads dc__law_heads pm__law_heads cd__law_heads ct__law_heads : Value} {od__law_heads an__law_heads : Option Addr} {sl__law_heads : Array (Option Value)} (a__law_heads : PySem.W.nsIn K mainGlobals "_law_heads" = some (some (.ref f__law_heads)))
    (l__law_heads : K.lookup f__law_heads = some ⟨oc__law_heads, od__law_heads, .func (PySem.W.fnOf "_law_heads" "_law_heads" (defArgs s__law_heads) (defBody s__law_heads) (defScope s__law_heads) .none kV__law_heads dc__law_heads pm__law_heads an__law_heads cd__law_heads ct__law_heads), sl__law_heads⟩) (c__law_heads : PySem.W.codeIn K cd__law_heads "_law_heads" = true) (k__law_heads : PySem.W.keepIn K (.ref f__law_heads) = true)
    {f__law_word : Addr} {oc__law_word kV__law_word dc__law_word pm__law_word cd__law_word ct__law_word : Value} {od__law_word an__law_word : Option Addr} {sl__law_word : Array (Option Value)} (a__law_word : PySem.W.nsIn K mainGlobals "_law_word" = some (some (.ref f__law_word)))
    (l__law_word : K.lookup f__law_word = some ⟨oc__law_word, od__law_word, .func (PySem.W.fnOf "_law_word" "_law_word" (defArgs s__law_word) (defBody s__law_word) (defScope s__law_word) .none kV__law_word dc__law_word pm__law_word an__law_word cd__law_word ct__law_word), sl__law_word⟩) (c__law_word : PySem.W.codeIn K cd__law_word "_law_word" = true) (k__law_word : PySem.W.keepIn K (.ref f__law_word) = true)
    {f__law_rule : Addr} {oc__law_rule kV__law_rule dc__law_rule pm__law_rule cd__law_rule ct__law_rule : Value} {od__law_rule an__law_rule : Option Addr} {sl__law_rule : Array (Option Value)} (a__law_rule : PySem.W.nsIn K mainGlobals "_law_rule" = some (some (.ref f__law_rule)))
    (l__law_rule : K.lookup f__law_rule = some ⟨oc__law_rule, od__law_rule, .func (PySem.W.fnOf "_law_rule" "_law_rule" (defArgs s__law_rule) (defBody s__law_rule) (defScope s__law_rule) .none kV__law_rule dc__law_rule pm__law_rule an__law_rule cd__law_rule ct__law_rule), sl__law_rule⟩) (c__law_rule : PySem.W.codeIn K cd__law_rule "_law_rule" = true) (k__law_rule : PySem.W.keepIn K (.ref f__law_rule) = true)
    {f__law_rules : Addr} {oc__law_rules kV__law_rules dc__law_rules pm__law_rules cd__law_rules ct__law_rules : Value} {od__law_rules an__law_rules : Option Addr} {sl__law_rules : Array (Option Value)} (a__law_rules : PySem.W.nsIn K mainGlobals "_law_rules" = some (some (.ref f__law_rules)))
    (l__law_rules : K.lookup f__law_rules = some ⟨oc__law_rules, od__law_rules, .func (PySem.W.fnOf "_law_rules" "_law_rules" (defArgs s__law_rules) (defBody s__law_rules) (defScope s__law_rules) .none kV__law_rules dc__law_rules pm__law_rules an__law_rules cd__law_rules ct__law_rules), sl__law_rules⟩) (c__law_rules : PySem.W.codeIn K cd__law_rules "_law_rules" = true) (k__law_rules : PySem.W.keepIn K (.ref f__law_rules) = true)
    {f__law_odd : Addr} {oc__law_odd kV__law_odd dc__law_odd pm__law_odd cd__law_odd ct__law_odd : Value} {od__law_odd an__law_odd : Option Addr} {sl__law_odd : Array (Option Value)} (a__law_odd : PySem.W.nsIn K mainGlobals "_law_odd" = some (some (.ref f__law_odd)))
    (l__law_odd : K.lookup f__law_odd = some ⟨oc__law_odd, od__law_odd, .func (PySem.W.fnOf "_law_odd" "_law_odd" (defArgs s__law_odd) (defBody s__law_odd) (defScope s__law_odd) .none kV__law_odd dc__law_odd pm__law_odd an__law_odd cd__law_odd ct__law_odd), sl__law_odd⟩) (c__law_odd : PySem.W.codeIn K cd__law_odd "_law_odd" = true) (k__law_odd : PySem.W.keepIn K (.ref f__law_odd) = true)
    {f__law_long : Addr} {oc__law_long kV__law_long dc__law_long pm__law_long cd__law_long ct__law_long : Value} {od__law_long an__law_long : Option Addr} {sl__law_long : Array (Option Value)} (a__law_long : PySem.W.nsIn K mainGlobals "_law_long" = some (some (.ref f__law_long)))
    (l__law_long : K.lookup f__law_long = some ⟨oc__law_long, od__law_long, .func (PySem.W.fnOf "_law_long" "_law_long" (defArgs s__law_long) (defBody s__law_long) (defScope s__law_long) .none kV__law_long dc__law_long pm__law_long an__law_long cd__law_long ct__law_long), sl__law_long⟩) (c__law_long : PySem.W.codeIn K cd__law_long "_law_long" = true) (k__law_long : PySem.W.keepIn K (.ref f__law_long) = true)
    {f__law_text : Addr} {oc__law_text kV__law_text dc__law_text pm__law_text cd__law_text ct__law_text : Value} {od__law_text an__law_text : Option Addr} {sl__law_text : Array (Option Value)} (a__law_text : PySem.W.nsIn K mainGlobals "_law_text" = some (some (.ref f__law_text)))
    (l__law_text : K.lookup f__law_text = some ⟨oc__law_text, od__law_text, .func (PySem.W.fnOf "_law_text" "_law_text" (defArgs s__law_text) (defBody s__law_text) (defScope s__law_text) .none kV__law_text dc__law_text pm__law_text an__law_text cd__law_text ct__law_text), sl__law_text⟩) (c__law_text : PySem.W.codeIn K cd__law_text "_law_text" = true) (k__law_text : PySem.W.keepIn K (.ref f__law_text) = true)
    {f__law_of : Addr} {oc__law_of kV__law_of dc__law_of pm__law_of cd__law_of ct__law_of : Value} {od__law_of an__law_of : Option Addr} {sl__law_of : Array (Option Value)} (a__law_of : PySem.W.nsIn K mainGlobals "_law_of" = some (some (.ref f__law_of)))
    (l__law_of : K.lookup f__law_of = some ⟨oc__law_of, od__law_of, .func (PySem.W.fnOf "_law_of" "_law_of" (defArgs s__law_of) (defBody s__law_of) (defScope s__law_of) .none kV__law_of dc__law_of pm__law_of an__law_of cd__law_of ct__law_of), sl__law_of⟩) (c__law_of : PySem.W.codeIn K cd__law_of "_law_of" = true) (k__law_of : PySem.W.keepIn K (.ref f__law_of) = true)
    {f__law_is_head : Addr} {oc__law_is_head kV__law_is_head dc__law_is_head pm__law_is_head cd__law_is_head ct__law_is_head : Value} {od__law_is_head an__law_is_head : Option Addr} {sl__law_is_head : Array (Option Value)} (a__law_is_head : PySem.W.nsIn K mainGlobals "_law_is_head" = some (some (.ref f__law_is_head)))
    (l__law_is_head : K.lookup f__law_is_head = some ⟨oc__law_is_head, od__law_is_head, .func (PySem.W.fnOf "_law_is_head" "_law_is_head" (defArgs s__law_is_head) (defBody s__law_is_head) (defScope s__law_is_head) .none kV__law_is_head dc__law_is_head pm__law_is_head an__law_is_head cd__law_is_head ct__law_is_head), sl__law_is_head⟩) (c__law_is_head : PySem.W.codeIn K cd__law_is_head "_law_is_head" = true) (k__law_is_head : PySem.W.keepIn K (.ref f__law_is_head) = true)
    {f__law_row : Addr} {oc__law_row kV__law_row dc__law_row pm__law_row cd__law_row ct__law_row : Value} {od__law_row an__law_row : Option Addr} {sl__law_row : Array (Option Value)} (a__law_row : PySem.W.nsIn K mainGlobals "_law_row" = some (some (.ref f__law_row)))
    (l__law_row : K.lookup f__law_row = some ⟨oc__law_row, od__law_row, .func (PySem.W.fnOf "_law_row" "_law_row" (defArgs s__law_row) (defBody s__law_row) (defScope s__law_row) .none kV__law_row dc__law_row pm__law_row an__law_row cd__law_row ct__law_row), sl__law_row⟩) (c__law_row : PySem.W.codeIn K cd__law_row "_law_row" = true) (k__law_row : PySem.W.keepIn K (.ref f__law_row) = true)
    {f__law_due : Addr} {oc__law_due kV__law_due dc__law_due pm__law_due cd__law_due ct__law_due : Value} {od__law_due an__law_due : Option Addr} {sl__law_due : Array (Option Value)} (a__law_due : PySem.W.nsIn K mainGlobals "_law_due" = some (some (.ref f__law_due)))
    (l__law_due : K.lookup f__law_due = some ⟨oc__law_due, od__law_due, .func (PySem.W.fnOf "_law_due" "_law_due" (defArgs s__law_due) (defBody s__law_due) (defScope s__law_due) .none kV__law_due dc__law_due pm__law_due an__law_due cd__law_due ct__law_due), sl__law_due⟩) (c__law_due : PySem.W.codeIn K cd__law_due "_law_due" = true) (k__law_due : PySem.W.keepIn K (.ref f__law_due) = true)
    {f_names : Addr} {oc_names kV_names dc_names pm_names cd_names ct_names : Value} {od_names an_names : Option Addr} {sl_names : Array (Option Value)} (a_names : PySem.W.nsIn K mainGlobals "names" = some (some (.ref f_names)))
    (l_names : K.lookup f_names = some ⟨oc_names, od_names, .func (PySem.W.fnOf "names" "names" (defArgs s_names) (defBody s_names) (defScope s_names) .none kV_names dc_names pm_names an_names cd_names ct_names), sl_names⟩) (c_names : PySem.W.codeIn K cd_names "names" = true) (k_names : PySem.W.keepIn K (.ref f_names) = true)
    {f_is_name : Addr} {oc_is_name kV_is_name dc_is_name pm_is_name cd_is_name ct_is_name : Value} {od_is_name an_is_name : Option Addr} {sl_is_name : Array (Option Value)} (a_is_name : PySem.W.nsIn K mainGlobals "is_name" = some (some (.ref f_is_name)))
    (l_is_name : K.lookup f_is_name = some ⟨oc_is_name, od_is_name, .func (PySem.W.fnOf "is_name" "is_name" (defArgs s_is_name) (defBody s_is_name) (defScope s_is_name) .none kV_is_name dc_is_name pm_is_name an_is_name cd_is_name ct_is_name), sl_is_name⟩) (c_is_name : PySem.W.codeIn K cd_is_name "is_name" = true) (k_is_name : PySem.W.keepIn K (.ref f_is_name) = true)
    {f_grammar_of : Addr} {oc_grammar_of kV_grammar_of dc_grammar_of pm_grammar_of cd_grammar_of ct_grammar_of : Value} {od_grammar_of an_grammar_of : Option Addr} {sl_grammar_of : Array (Option Value)} (a_grammar_of : PySem.W.nsIn K mainGlobals "grammar_of" = some (some (.ref f_grammar_of)))
    (l_grammar_of : K.lookup f_grammar_of = some ⟨oc_grammar_of, od_grammar_of, .func (PySem.W.fnOf "grammar_of" "grammar_of" (defArgs s_grammar_of) (defBody s_grammar_of) (defScope s_grammar_of) .none kV_grammar_of dc_grammar_of pm_grammar_of an_grammar_of cd_grammar_of ct_grammar_of), sl_grammar_of⟩) (c_grammar_of : PySem.W.codeIn K cd_grammar_of "grammar_of" = true) (k_grammar_of : PySem.W.keepIn K (.ref f_grammar_of) = true)
    {f_cost_of : Addr} {oc_cost_of kV_cost_of dc_cost_of pm_cost_of cd_cost_of ct_cost_of : Value} {od_cost_of an_cost_of : Option Addr} {sl_cost_of : Array (Option Value)} (a_cost_of : PySem.W.nsIn K mainGlobals "cost_of" = some (some (.ref f_cost_of)))
    (l_cost_of : K.lookup f_cost_of = some ⟨oc_cost_of, od_cost_of, .func (PySem.W.fnOf "cost_of" "cost_of" (defArgs s_cost_of) (defBody s_cost_of) (defScope s_cost_of) .none kV_cost_of dc_cost_of pm_cost_of an_cost_of cd_cost_of ct_cost_of), sl_cost_of⟩) (c_cost_of : PySem.W.codeIn K cd_cost_of "cost_of" = true) (k_cost_of : PySem.W.keepIn K (.ref f_cost_of) = true)
    {f_made_of : Addr} {oc_made_of kV_made_of dc_made_of pm_made_of cd_made_of ct_made_of : Value} {od_made_of an_made_of : Option Addr} {sl_made_of : Array (Option Value)} (a_made_of : PySem.W.nsIn K mainGlobals "made_of" = some (some (.ref f_made_of)))
    (l_made_of : K.lookup f_made_of = some ⟨oc_made_of, od_made_of, .func (PySem.W.fnOf "made_of" "made_of" (defArgs s_made_of) (defBody s_made_of) (defScope s_made_of) .none kV_made_of dc_made_of pm_made_of an_made_of cd_made_of ct_made_of), sl_made_of⟩) (c_made_of : PySem.W.codeIn K cd_made_of "made_of" = true) (k_made_of : PySem.W.keepIn K (.ref f_made_of) = true)
    {f_is_name_text : Addr} {oc_is_name_text kV_is_name_text dc_is_name_text pm_is_name_text cd_is_name_text ct_is_name_text : Value} {od_is_name_text an_is_name_text : Option Addr} {sl_is_name_text : Array (Option Value)} (a_is_name_text : PySem.W.nsIn K mainGlobals "is_name_text" = some (some (.ref f_is_name_text)))
    (l_is_name_text : K.lookup f_is_name_text = some ⟨oc_is_name_text, od_is_name_text, .func (PySem.W.fnOf "is_name_text" "is_name_text" (defArgs s_is_name_text) (defBody s_is_name_text) (defScope s_is_name_text) .none kV_is_name_text dc_is_name_text pm_is_name_text an_is_name_text cd_is_name_text ct_is_name_text), sl_is_name_text⟩) (c_is_name_text : PySem.W.codeIn K cd_is_name_text "is_name_text" = true) (k_is_name_text : PySem.W.keepIn K (.ref f_is_name_text) = true)
    {f_read_rule : Addr} {oc_read_rule kV_read_rule dc_read_rule pm_read_rule cd_read_rule ct_read_rule : Value} {od_read_rule an_read_rule : Option Addr} {sl_read_rule : Array (Option Value)} (a_read_rule : PySem.W.nsIn K mainGlobals "read_rule" = some (some (.ref f_read_rule)))
    (l_read_rule : K.lookup f_read_rule = some ⟨oc_read_rule, od_read_rule, .func (PySem.W.fnOf "read_rule" "read_rule" (defArgs s_read_rule) (defBody s_read_rule) (defScope s_read_rule) .none kV_read_rule dc_read_rule pm_read_rule an_read_rule cd_read_rule ct_read_rule), sl_read_rule⟩) (c_read_rule : PySem.W.codeIn K cd_read_rule "read_rule" = true) (k_read_rule : PySem.W.keepIn K (.ref f_read_rule) = true)
    {f_read_grammar : Addr} {oc_read_grammar kV_read_grammar dc_read_grammar pm_read_grammar cd_read_grammar ct_read_grammar : Value} {od_read_grammar an_read_grammar : Option Addr} {sl_read_grammar : Array (Option Value)} (a_read_grammar : PySem.W.nsIn K mainGlobals "read_grammar" = some (some (.ref f_read_grammar)))
    (l_read_grammar : K.lookup f_read_grammar = some ⟨oc_read_grammar, od_read_grammar, .func (PySem.W.fnOf "read_grammar" "read_grammar" (defArgs s_read_grammar) (defBody s_read_grammar) (defScope s_read_grammar) .none kV_read_grammar dc_read_grammar pm_read_grammar an_read_grammar cd_read_grammar ct_read_grammar), sl_read_grammar⟩) (c_read_grammar : PySem.W.codeIn K cd_read_grammar "read_grammar" = true) (k_read_grammar : PySem.W.keepIn K (.ref f_read_grammar) = true)
    {f__law_kinds : Addr} {oc__law_kinds kV__law_kinds dc__law_kinds pm__law_kinds cd__law_kinds ct__law_kinds : Value} {od__law_kinds an__law_kinds : Option Addr} {sl__law_kinds : Array (Option Value)} (a__law_kinds : PySem.W.nsIn K mainGlobals "_law_kinds" = some (some (.ref f__law_kinds)))
    (l__law_kinds : K.lookup f__law_kinds = some ⟨oc__law_kinds, od__law_kinds, .func (PySem.W.fnOf "_law_kinds" "_law_kinds" (defArgs s__law_kinds) (defBody s__law_kinds) (defScope s__law_kinds) .none kV__law_kinds dc__law_kinds pm__law_kinds an__law_kinds cd__law_kinds ct__law_kinds), sl__law_kinds⟩) (c__law_kinds : PySem.W.codeIn K cd__law_kinds "_law_kinds" = true) (k__law_kinds : PySem.W.keepIn K (.ref f__law_kinds) = true)
    {f_shown_rule : Addr} {oc_shown_rule kV_shown_rule dc_shown_rule pm_shown_rule cd_shown_rule ct_shown_rule : Value} {od_shown_rule an_shown_rule : Option Addr} {sl_shown_rule : Array (Option Value)} (a_shown_rule : PySem.W.nsIn K mainGlobals "shown_rule" = some (some (.ref f_shown_rule)))
    (l_shown_rule : K.lookup f_shown_rule = some ⟨oc_shown_rule, od_shown_rule, .func (PySem.W.fnOf "shown_rule" "shown_rule" (defArgs s_shown_rule) (defBody s_shown_rule) (defScope s_shown_rule) .none kV_shown_rule dc_shown_rule pm_shown_rule an_shown_rule cd_shown_rule ct_shown_rule), sl_shown_rule⟩) (c_shown_rule : PySem.W.codeIn K cd_shown_rule "shown_rule" = true) (k_shown_rule : PySem.W.keepIn K (.ref f_shown_rule) = true)
    {f_shown_grammar : Addr} {oc_shown_grammar kV_shown_grammar dc_shown_grammar pm_shown_grammar cd_shown_grammar ct_shown_grammar : Value} {od_shown_grammar an_shown_grammar : Option Addr} {sl_shown_grammar : Array (Option Value)} (a_shown_grammar : PySem.W.nsIn K mainGlobals "shown_grammar" = some (some (.ref f_shown_grammar)))
    (l_shown_grammar : K.lookup f_shown_grammar = some ⟨oc_shown_grammar, od_shown_grammar, .func (PySem.W.fnOf "shown_grammar" "shown_grammar" (defArgs s_shown_grammar) (defBody s_shown_grammar) (defScope s_shown_grammar) .none kV_shown_grammar dc_shown_grammar pm_shown_grammar an_shown_grammar cd_shown_grammar ct_shown_grammar), sl_shown_grammar⟩) (c_shown_grammar : PySem.W.codeIn K cd_shown_grammar "shown_grammar" = true) (k_shown_grammar : PySem.W.keepIn K (.ref f_shown_grammar) = true)
    {f_law : Addr} {oc_law kV_law dc_law pm_law cd_law ct_law : Value} {od_law an_law : Option Addr} {sl_law : Array (Option Value)} (a_law : PySem.W.nsIn K mainGlobals "law" = some (some (.ref f_law)))
    (l_law : K.lookup f_law = some ⟨oc_law, od_law, .func (PySem.W.fnOf "law" "law" (defArgs s_law) (defBody s_law) (defScope s_law) .none kV_law dc_law pm_law an_law cd_law ct_law), sl_law⟩) (c_law : PySem.W.codeIn K cd_law "law" = true) (k_law : PySem.W.keepIn K (.ref f_law) = true)
     (h_z_ValueError : PySem.W.nsIn K mainGlobals "ValueError" = some none)
     (h_z_all : PySem.W.nsIn K mainGlobals "all" = some none)
     (h_z_int : PySem.W.nsIn K mainGlobals "int" = some none)
     (h_z_isinstance : PySem.W.nsIn K mainGlobals "isinstance" = some none)
     (h_z_len : PySem.W.nsIn K mainGlobals "len" = some none)
     (h_z_list : PySem.W.nsIn K mainGlobals "list" = some none)
     (h_z_range : PySem.W.nsIn K mainGlobals "range" = some none)
     (h_z_str : PySem.W.nsIn K mainGlobals "str" = some none)
     (h_z_tuple : PySem.W.nsIn K mainGlobals "tuple" = some none)
    {tk_FIGURES : Tok} (h_g_FIGURES : PySem.W.nsIn K mainGlobals "FIGURES" = some (some (.str c_FIGURES tk_FIGURES)))
    {tk_GREAT_grammars : Tok} (h_g_GREAT_grammars : PySem.W.nsIn K mainGlobals "GREAT_grammars" = some (some (.str c_GREAT_grammars tk_GREAT_grammars)))
    {tk_GREAT_texts : Tok} (h_g_GREAT_texts : PySem.W.nsIn K mainGlobals "GREAT_texts" = some (some (.str c_GREAT_texts tk_GREAT_texts)))
    {tk_SMALL : Tok} (h_g_SMALL : PySem.W.nsIn K mainGlobals "SMALL" = some (some (.str c_SMALL tk_SMALL)))
    {tk_LONGEST : Tok} (h_g_LONGEST : PySem.W.nsIn K mainGlobals "LONGEST" = some (some (.int c_LONGEST tk_LONGEST)))
    {tk_MOST_FIGURES : Tok} (h_g_MOST_FIGURES : PySem.W.nsIn K mainGlobals "MOST_FIGURES" = some (some (.int c_MOST_FIGURES tk_MOST_FIGURES)))
     (h_m_Endless : PySem.W.nsIn K mainGlobals "Endless" = some (some (.ref C_Endless)))
     (h_m_GroveError : PySem.W.nsIn K mainGlobals "GroveError" = some (some (.ref C_GroveError)))
     (h_m_NoGrammar : PySem.W.nsIn K mainGlobals "NoGrammar" = some (some (.ref C_NoGrammar)))
     (h_m_NoOrder : PySem.W.nsIn K mainGlobals "NoOrder" = some (some (.ref C_NoOrder)))
     (h_m_NoReading : PySem.W.nsIn K mainGlobals "NoReading" = some (some (.ref C_NoReading)))
     (h_m_NoText : PySem.W.nsIn K mainGlobals "NoText" = some (some (.ref C_NoText)))
     (h_m_TooMany : PySem.W.nsIn K mainGlobals "TooMany" = some (some (.ref C_TooMany)))
     (eex_NoGrammar : PySem.W.excIn K C_NoGrammar [.type "ValueError", .type "Exception", .type "BaseException", .type "object"] "ValueError.__new__" = true)
     (ekp_NoGrammar : PySem.W.keepIn K (.ref C_NoGrammar) = true)
     (esb_NoGrammar : PySem.W.subIn K (.ref C_NoGrammar) (.type "BaseException") = some true)
     (ety_NoGrammar : PySem.W.typeIn K (.ref C_NoGrammar) = some (.type "type"))
     (eex_NoText : PySem.W.excIn K C_NoText [.type "ValueError", .type "Exception", .type "BaseException", .type "object"] "ValueError.__new__" = true)
     (ekp_NoText : PySem.W.keepIn K (.ref C_NoText) = true)
     (esb_NoText : PySem.W.subIn K (.ref C_NoText) (.type "BaseException") = some true)
     (ety_NoText : PySem.W.typeIn K (.ref C_NoText) = some (.type "type"))
     (xhg_NoGrammar : PySem.W.findIn K (.ref C_NoGrammar) "__getattribute__" = some (some (.builtin "BaseException.__getattribute__")))
     (xhk_NoGrammar : PySem.W.findIn K (.ref C_NoGrammar) "__getattr__" = some none)
     (xhd_NoGrammar : PySem.W.hasDictIn K C_NoGrammar = true)
     (xha_NoGrammar : PySem.W.findIn K (.ref C_NoGrammar) "__class__" = some (some (.builtin "object.__class__")))
     (xhn_NoGrammar : PySem.W.specialIn K (.builtin "object.__class__") "__get__" = some (some (.builtin "getset_descriptor.__get__")))
     (xht_NoGrammar : PySem.W.takesIn K (.builtin "object.__class__") = some true)
     (xhm_NoGrammar : PySem.W.mroIn K C_NoGrammar (.type "object") = some true)
     (xhg_NoText : PySem.W.findIn K (.ref C_NoText) "__getattribute__" = some (some (.builtin "BaseException.__getattribute__")))
     (xhk_NoText : PySem.W.findIn K (.ref C_NoText) "__getattr__" = some none)
     (xhd_NoText : PySem.W.hasDictIn K C_NoText = true)
     (xha_NoText : PySem.W.findIn K (.ref C_NoText) "__class__" = some (some (.builtin "object.__class__")))
     (xhn_NoText : PySem.W.specialIn K (.builtin "object.__class__") "__get__" = some (some (.builtin "getset_descriptor.__get__")))
     (xht_NoText : PySem.W.takesIn K (.builtin "object.__class__") = some true)
     (xhm_NoText : PySem.W.mroIn K C_NoText (.type "object") = some true)
     (hk_NoGrammar_Endless : PySem.W.kitOne K (.ref C_NoGrammar) (.ref C_Endless) = some false)
     (hk_NoGrammar_NoGrammar : PySem.W.kitOne K (.ref C_NoGrammar) (.ref C_NoGrammar) = some true)
     (hk_NoGrammar_NoOrder : PySem.W.kitOne K (.ref C_NoGrammar) (.ref C_NoOrder) = some false)
     (hk_NoGrammar_NoReading : PySem.W.kitOne K (.ref C_NoGrammar) (.ref C_NoReading) = some false)
     (hk_NoGrammar_NoText : PySem.W.kitOne K (.ref C_NoGrammar) (.ref C_NoText) = some false)
     (hk_NoGrammar_TooMany : PySem.W.kitOne K (.ref C_NoGrammar) (.ref C_TooMany) = some false)
     (hk_NoGrammar_ValueError : PySem.W.kitOne K (.ref C_NoGrammar) (.type "ValueError") = some true)
     (hk_NoText_Endless : PySem.W.kitOne K (.ref C_NoText) (.ref C_Endless) = some false)
     (hk_NoText_NoGrammar : PySem.W.kitOne K (.ref C_NoText) (.ref C_NoGrammar) = some false)
     (hk_NoText_NoOrder : PySem.W.kitOne K (.ref C_NoText) (.ref C_NoOrder) = some false)
     (hk_NoText_NoReading : PySem.W.kitOne K (.ref C_NoText) (.ref C_NoReading) = some false)
     (hk_NoText_NoText : PySem.W.kitOne K (.ref C_NoText) (.ref C_NoText) = some true)
     (hk_NoText_TooMany : PySem.W.kitOne K (.ref C_NoText) (.ref C_TooMany) = some false)
     (hk_NoText_ValueError : PySem.W.kitOne K (.ref C_NoText) (.type "ValueError") = some true)
     (hk_NoneType_Endless : PySem.W.kitOne K (.type "NoneType") (.ref C_Endless) = some false)
     (hk_NoneType_NoGrammar : PySem.W.kitOne K (.type "NoneType") (.ref C_NoGrammar) = some false)
     (hk_NoneType_NoOrder : PySem.W.kitOne K (.type "NoneType") (.ref C_NoOrder) = some false)
     (hk_NoneType_NoReading : PySem.W.kitOne K (.type "NoneType") (.ref C_NoReading) = some false)
     (hk_NoneType_NoText : PySem.W.kitOne K (.type "NoneType") (.ref C_NoText) = some false)
     (hk_NoneType_TooMany : PySem.W.kitOne K (.type "NoneType") (.ref C_TooMany) = some false)
     (hk_NoneType_ValueError : PySem.W.kitOne K (.type "NoneType") (.type "ValueError") = some false)
     (hk_NoneType_list : PySem.W.kitOne K (.type "NoneType") (.type "list") = some false)
     (hk_int_list : PySem.W.kitOne K (.type "int") (.type "list") = some false)
     (hk_list_list : PySem.W.kitOne K (.type "list") (.type "list") = some true)
     (hk_str_list : PySem.W.kitOne K (.type "str") (.type "list") = some false)
     (hk_tuple_list : PySem.W.kitOne K (.type "tuple") (.type "list") = some false)
     (qb_GroveError : PySem.W.subIn K (.ref C_GroveError) (.type "BaseException") = some true)
     (qd_GroveError : PySem.W.hasDictIn K C_GroveError = true)
     (qt_GroveError : PySem.W.typeIn K (.ref C_GroveError) = some (.type "type"))
     (hq_NoGrammar_GroveError : PySem.W.subIn K (.ref C_NoGrammar) (.ref C_GroveError) = some true)
     (hq_NoText_GroveError : PySem.W.subIn K (.ref C_NoText) (.ref C_GroveError) = some true)
    (hp : ∀ ns : List Int, ns.length ≤ 63 → m_law [.rol (ns.map .int)] [] = .ok (.bl true) []) :
    ∃ fd : FuncData, (∀ (s : Shared) (v : Value), BindsTo s fd ⟨[v], []⟩ [("script", v)]) ∧ ∀ base : Heap, K.In base → base.Ns mainGlobals mg → FnOk l.prog w K mg base (L2.CX l.prog w) 5 fa fd ["script"] (spLaw 63 K) := by
  have e := hfa.symm.trans (PySem.W.mg_of X G a_law)
  cases e
  have T : Tx K mg C_Endless C_GroveError C_NoGrammar C_NoOrder C_NoReading C_NoText C_TooMany := { z_ValueError := PySem.W.mg_none_of X G h_z_ValueError, z_all := PySem.W.mg_none_of X G h_z_all, z_int := PySem.W.mg_none_of X G h_z_int, z_isinstance := PySem.W.mg_none_of X G h_z_isinstance, z_len := PySem.W.mg_none_of X G h_z_len, z_list := PySem.W.mg_none_of X G h_z_list, z_range := PySem.W.mg_none_of X G h_z_range, z_str := PySem.W.mg_none_of X G h_z_str, z_tuple := PySem.W.mg_none_of X G h_z_tuple, g_FIGURES := ⟨_, PySem.W.mg_of X G h_g_FIGURES⟩, g_GREAT_grammars := ⟨_, PySem.W.mg_of X G h_g_GREAT_grammars⟩, g_GREAT_texts := ⟨_, PySem.W.mg_of X G h_g_GREAT_texts⟩, g_SMALL := ⟨_, PySem.W.mg_of X G h_g_SMALL⟩, g_LONGEST := ⟨_, PySem.W.mg_of X G h_g_LONGEST⟩, g_MOST_FIGURES := ⟨_, PySem.W.mg_of X G h_g_MOST_FIGURES⟩, m_Endless := PySem.W.mg_of X G h_m_Endless, m_GroveError := PySem.W.mg_of X G h_m_GroveError, m_NoGrammar := PySem.W.mg_of X G h_m_NoGrammar, m_NoOrder := PySem.W.mg_of X G h_m_NoOrder, m_NoReading := PySem.W.mg_of X G h_m_NoReading, m_NoText := PySem.W.mg_of X G h_m_NoText, m_TooMany := PySem.W.mg_of X G h_m_TooMany, e_NoGrammar := ⟨PySem.W.mg_of X G h_m_NoGrammar, eex_NoGrammar, ekp_NoGrammar, esb_NoGrammar, ety_NoGrammar⟩, e_NoText := ⟨PySem.W.mg_of X G h_m_NoText, eex_NoText, ekp_NoText, esb_NoText, ety_NoText⟩, x_NoGrammar := ⟨xhg_NoGrammar, xhk_NoGrammar, esb_NoGrammar, xhd_NoGrammar, xha_NoGrammar, xhn_NoGrammar, xht_NoGrammar, xhm_NoGrammar⟩, x_NoText := ⟨xhg_NoText, xhk_NoText, esb_NoText, xhd_NoText, xha_NoText, xhn_NoText, xht_NoText, xhm_NoText⟩, k_NoGrammar_Endless := hk_NoGrammar_Endless, k_NoGrammar_NoGrammar := hk_NoGrammar_NoGrammar, k_NoGrammar_NoOrder := hk_NoGrammar_NoOrder, k_NoGrammar_NoReading := hk_NoGrammar_NoReading, k_NoGrammar_NoText := hk_NoGrammar_NoText, k_NoGrammar_TooMany := hk_NoGrammar_TooMany, k_NoGrammar_ValueError := hk_NoGrammar_ValueError, k_NoText_Endless := hk_NoText_Endless, k_NoText_NoGrammar := hk_NoText_NoGrammar, k_NoText_NoOrder := hk_NoText_NoOrder, k_NoText_NoReading := hk_NoText_NoReading, k_NoText_NoText := hk_NoText_NoText, k_NoText_TooMany := hk_NoText_TooMany, k_NoText_ValueError := hk_NoText_ValueError, k_NoneType_Endless := hk_NoneType_Endless, k_NoneType_NoGrammar := hk_NoneType_NoGrammar, k_NoneType_NoOrder := hk_NoneType_NoOrder, k_NoneType_NoReading := hk_NoneType_NoReading, k_NoneType_NoText := hk_NoneType_NoText, k_NoneType_TooMany := hk_NoneType_TooMany, k_NoneType_ValueError := hk_NoneType_ValueError, k_NoneType_list := hk_NoneType_list, k_int_list := hk_int_list, k_list_list := hk_list_list, k_str_list := hk_str_list, k_tuple_list := hk_tuple_list, q_NoGrammar_GroveError := PySem.W.exm_ref qb_GroveError qd_GroveError qt_GroveError hq_NoGrammar_GroveError, q_NoText_GroveError := PySem.W.exm_ref qb_GroveError qd_GroveError qt_GroveError hq_NoText_GroveError }
  have U__law_cell_at := fun_mk (st := s__law_cell_at) l__law_cell_at c__law_cell_at k__law_cell_at
  have U__law_shown := fun_mk (st := s__law_shown) l__law_shown c__law_shown k__law_shown
  have U__law_heads := fun_mk (st := s__law_heads) l__law_heads c__law_heads k__law_heads
  have U__law_word := fun_mk (st := s__law_word) l__law_word c__law_word k__law_word
  have U__law_rule := fun_mk (st := s__law_rule) l__law_rule c__law_rule k__law_rule
  have U__law_rules := fun_mk (st := s__law_rules) l__law_rules c__law_rules k__law_rules
  have U__law_odd := fun_mk (st := s__law_odd) l__law_odd c__law_odd k__law_odd
  have U__law_long := fun_mk (st := s__law_long) l__law_long c__law_long k__law_long
  have U__law_text := fun_mk (st := s__law_text) l__law_text c__law_text k__law_text
  have U__law_of := fun_mk (st := s__law_of) l__law_of c__law_of k__law_of
  have U__law_is_head := fun_mk (st := s__law_is_head) l__law_is_head c__law_is_head k__law_is_head
  have U__law_row := fun_mk (st := s__law_row) l__law_row c__law_row k__law_row
  have U__law_due := fun_mk (st := s__law_due) l__law_due c__law_due k__law_due
  have U_names := fun_mk (st := s_names) l_names c_names k_names
  have U_is_name := fun_mk (st := s_is_name) l_is_name c_is_name k_is_name
  have U_grammar_of := fun_mk (st := s_grammar_of) l_grammar_of c_grammar_of k_grammar_of
  have U_cost_of := fun_mk (st := s_cost_of) l_cost_of c_cost_of k_cost_of
  have U_made_of := fun_mk (st := s_made_of) l_made_of c_made_of k_made_of
  have U_is_name_text := fun_mk (st := s_is_name_text) l_is_name_text c_is_name_text k_is_name_text
  have U_read_rule := fun_mk (st := s_read_rule) l_read_rule c_read_rule k_read_rule
  have U_read_grammar := fun_mk (st := s_read_grammar) l_read_grammar c_read_grammar k_read_grammar
  have U__law_kinds := fun_mk (st := s__law_kinds) l__law_kinds c__law_kinds k__law_kinds
  have U_shown_rule := fun_mk (st := s_shown_rule) l_shown_rule c_shown_rule k_shown_rule
  have U_shown_grammar := fun_mk (st := s_shown_grammar) l_shown_grammar c_shown_grammar k_shown_grammar
  have U_law := fun_mk (st := s_law) l_law c_law k_law
  refine ⟨PySem.W.fnOf "law" "law" (defArgs s_law) (defBody s_law) (defScope s_law) .none kV_law dc_law pm_law an_law cd_law ct_law, fun s v => .of_eq rfl, fun base _ _ => ?_⟩
  have F__law_cell_at : FnM l.prog w K mg base 1 "_law_cell_at" 2 m__law_cell_at := fnm_def U__law_cell_at (PySem.W.mg_of X G a__law_cell_at) (U__law_cell_at.binds (ps := ["script", "k"]) fun _ _ _ _ _ _ us hl => match us, hl with | [_, _], _ => rfl) sc__law_cell_at (by__law_cell_at T )
  have F__law_shown : FnM l.prog w K mg base 1 "_law_shown" 1 m__law_shown := fnm_def U__law_shown (PySem.W.mg_of X G a__law_shown) (U__law_shown.binds (ps := ["rules"]) fun _ _ _ _ _ _ us hl => match us, hl with | [_], _ => rfl) sc__law_shown (by__law_shown T )
  have F__law_heads : FnM l.prog w K mg base 1 "_law_heads" 1 m__law_heads := fnm_def U__law_heads (PySem.W.mg_of X G a__law_heads) (U__law_heads.binds (ps := ["cells"]) fun _ _ _ _ _ _ us hl => match us, hl with | [_], _ => rfl) sc__law_heads (by__law_heads T )
  have F__law_word : FnM l.prog w K mg base 1 "_law_word" 1 m__law_word := fnm_def U__law_word (PySem.W.mg_of X G a__law_word) (U__law_word.binds (ps := ["number"]) fun _ _ _ _ _ _ us hl => match us, hl with | [_], _ => rfl) sc__law_word (by__law_word T )
  have F__law_rule : FnM l.prog w K mg base 2 "_law_rule" 3 m__law_rule := fnm_def U__law_rule (PySem.W.mg_of X G a__law_rule) (U__law_rule.binds (ps := ["cell", "k", "heads"]) fun _ _ _ _ _ _ us hl => match us, hl with | [_, _, _], _ => rfl) sc__law_rule (by__law_rule T F__law_word)
  have F__law_rules : FnM l.prog w K mg base 3 "_law_rules" 1 m__law_rules := fnm_def U__law_rules (PySem.W.mg_of X G a__law_rules) (U__law_rules.binds (ps := ["script"]) fun _ _ _ _ _ _ us hl => match us, hl with | [_], _ => rfl) sc__law_rules (by__law_rules T F__law_heads F__law_rule F__law_cell_at)
  have F__law_odd : FnM l.prog w K mg base 1 "_law_odd" 1 m__law_odd := fnm_def U__law_odd (PySem.W.mg_of X G a__law_odd) (U__law_odd.binds (ps := ["cell"]) fun _ _ _ _ _ _ us hl => match us, hl with | [_], _ => rfl) sc__law_odd (by__law_odd T )
  have F__law_long : FnM l.prog w K mg base 1 "_law_long" 1 m__law_long := fnm_def U__law_long (PySem.W.mg_of X G a__law_long) (U__law_long.binds (ps := ["cell"]) fun _ _ _ _ _ _ us hl => match us, hl with | [_], _ => rfl) sc__law_long (by__law_long T )
  have F__law_text : FnM l.prog w K mg base 4 "_law_text" 1 m__law_text := fnm_def U__law_text (PySem.W.mg_of X G a__law_text) (U__law_text.binds (ps := ["script"]) fun _ _ _ _ _ _ us hl => match us, hl with | [_], _ => rfl) sc__law_text (by__law_text T F__law_cell_at F__law_shown F__law_rules F__law_odd F__law_long)
  have F__law_of : FnM l.prog w K mg base 1 "_law_of" 3 m__law_of := fnm_def U__law_of (PySem.W.mg_of X G a__law_of) (U__law_of.binds (ps := ["text", "some", "most"]) fun _ _ _ _ _ _ us hl => match us, hl with | [_, _, _], _ => rfl) sc__law_of (by__law_of T )
  have F__law_is_head : FnM l.prog w K mg base 2 "_law_is_head" 1 m__law_is_head := fnm_def U__law_is_head (PySem.W.mg_of X G a__law_is_head) (U__law_is_head.binds (ps := ["word"]) fun _ _ _ _ _ _ us hl => match us, hl with | [_], _ => rfl) sc__law_is_head (by__law_is_head T F__law_of)
  have F__law_row : FnM l.prog w K mg base 3 "_law_row" 1 m__law_row := fnm_def U__law_row (PySem.W.mg_of X G a__law_row) (U__law_row.binds (ps := ["row"]) fun _ _ _ _ _ _ us hl => match us, hl with | [_], _ => rfl) sc__law_row (by__law_row T F__law_is_head F__law_of)
  have F__law_due : FnM l.prog w K mg base 4 "_law_due" 1 m__law_due := fnm_def U__law_due (PySem.W.mg_of X G a__law_due) (U__law_due.binds (ps := ["text"]) fun _ _ _ _ _ _ us hl => match us, hl with | [_], _ => rfl) sc__law_due (by__law_due T F__law_row F__law_is_head)
  have F_names : FnM l.prog w K mg base 1 "names" 1 m_names := fnm_def U_names (PySem.W.mg_of X G a_names) (U_names.binds (ps := ["grammar"]) fun _ _ _ _ _ _ us hl => match us, hl with | [_], _ => rfl) sc_names (by_names T )
  have F_is_name : FnM l.prog w K mg base 1 "is_name" 1 m_is_name := fnm_def U_is_name (PySem.W.mg_of X G a_is_name) (U_is_name.binds (ps := ["part"]) fun _ _ _ _ _ _ us hl => match us, hl with | [_], _ => rfl) sc_is_name (by_is_name T )
  have F_grammar_of : FnM l.prog w K mg base 2 "grammar_of" 1 m_grammar_of := fnm_def U_grammar_of (PySem.W.mg_of X G a_grammar_of) (U_grammar_of.binds (ps := ["rules"]) fun _ _ _ _ _ _ us hl => match us, hl with | [_], _ => rfl) sc_grammar_of (by_grammar_of T F_names F_is_name)
  have F_cost_of : FnM l.prog w K mg base 1 "cost_of" 1 m_cost_of := fnm_def U_cost_of (PySem.W.mg_of X G a_cost_of) (U_cost_of.binds (ps := ["text"]) fun _ _ _ _ _ _ us hl => match us, hl with | [_], _ => rfl) sc_cost_of (by_cost_of T )
  have F_made_of : FnM l.prog w K mg base 1 "made_of" 2 m_made_of := fnm_def U_made_of (PySem.W.mg_of X G a_made_of) (U_made_of.binds (ps := ["text", "signs"]) fun _ _ _ _ _ _ us hl => match us, hl with | [_, _], _ => rfl) sc_made_of (by_made_of T )
  have F_is_name_text : FnM l.prog w K mg base 2 "is_name_text" 1 m_is_name_text := fnm_def U_is_name_text (PySem.W.mg_of X G a_is_name_text) (U_is_name_text.binds (ps := ["text"]) fun _ _ _ _ _ _ us hl => match us, hl with | [_], _ => rfl) sc_is_name_text (by_is_name_text T F_made_of)
  have F_read_rule : FnM l.prog w K mg base 3 "read_rule" 1 m_read_rule := fnm_def U_read_rule (PySem.W.mg_of X G a_read_rule) (U_read_rule.binds (ps := ["text"]) fun _ _ _ _ _ _ us hl => match us, hl with | [_], _ => rfl) sc_read_rule (by_read_rule T F_cost_of F_is_name_text F_made_of)
  have F_read_grammar : FnM l.prog w K mg base 4 "read_grammar" 1 m_read_grammar := fnm_def U_read_grammar (PySem.W.mg_of X G a_read_grammar) (U_read_grammar.binds (ps := ["text"]) fun _ _ _ _ _ _ us hl => match us, hl with | [_], _ => rfl) sc_read_grammar (by_read_grammar T F_grammar_of F_read_rule)
  have F__law_kinds : FnM l.prog w K mg base 1 "_law_kinds" 1 m__law_kinds := fnm_def U__law_kinds (PySem.W.mg_of X G a__law_kinds) (U__law_kinds.binds (ps := ["e"]) fun _ _ _ _ _ _ us hl => match us, hl with | [_], _ => rfl) sc__law_kinds (by__law_kinds T )
  have F_shown_rule : FnM l.prog w K mg base 1 "shown_rule" 1 m_shown_rule := fnm_def U_shown_rule (PySem.W.mg_of X G a_shown_rule) (U_shown_rule.binds (ps := ["rule"]) fun _ _ _ _ _ _ us hl => match us, hl with | [_], _ => rfl) sc_shown_rule (by_shown_rule T )
  have F_shown_grammar : FnM l.prog w K mg base 2 "shown_grammar" 1 m_shown_grammar := fnm_def U_shown_grammar (PySem.W.mg_of X G a_shown_grammar) (U_shown_grammar.binds (ps := ["grammar"]) fun _ _ _ _ _ _ us hl => match us, hl with | [_], _ => rfl) sc_shown_grammar (by_shown_grammar T F_shown_rule)
  exact (fn_def U_law sc_law (by_law (P := l.prog) (w := w) (base := base) T F__law_text F__law_due F_read_grammar F__law_kinds F_shown_grammar)).imp (law_sp hp)
end G81

open PySem PySem.W PyProof.Rows in
set_option maxRecDepth 100000 in
set_option maxHeartbeats 0 in
theorem PySem.Challenge.cw_readgrove_k81_no_grammars_holds : PySem.Challenge.rw_readgrove_k81_no_grammars.Holds := by
  w_on; o_law; k_head; (case hw => w_witness2)
  k_fill
  refine Mp.walkM (l := PySem.Challenge.rw_readgrove_k81_no_grammars) (n := 63) (k := 5) rfl (by decide) rfl ⟨rfl, by decide, by decide⟩ (fun w h Y => PySem.W.kIn_of Y) ?F
  case F =>
    intro w mg fa h KX G hmg
    refine' G81.all_mk KX G hmg ?a__law_cell_at ?l__law_cell_at ?c__law_cell_at ?k__law_cell_at ?a__law_shown ?l__law_shown ?c__law_shown ?k__law_shown ?a__law_heads ?l__law_heads ?c__law_heads ?k__law_heads ?a__law_word ?l__law_word ?c__law_word ?k__law_word ?a__law_rule ?l__law_rule ?c__law_rule ?k__law_rule ?a__law_rules ?l__law_rules ?c__law_rules ?k__law_rules ?a__law_odd ?l__law_odd ?c__law_odd ?k__law_odd ?a__law_long ?l__law_long ?c__law_long ?k__law_long ?a__law_text ?l__law_text ?c__law_text ?k__law_text ?a__law_of ?l__law_of ?c__law_of ?k__law_of ?a__law_is_head ?l__law_is_head ?c__law_is_head ?k__law_is_head ?a__law_row ?l__law_row ?c__law_row ?k__law_row ?a__law_due ?l__law_due ?c__law_due ?k__law_due ?a_names ?l_names ?c_names ?k_names ?a_is_name ?l_is_name ?c_is_name ?k_is_name ?a_grammar_of ?l_grammar_of ?c_grammar_of ?k_grammar_of ?a_cost_of ?l_cost_of ?c_cost_of ?k_cost_of ?a_made_of ?l_made_of ?c_made_of ?k_made_of ?a_is_name_text ?l_is_name_text ?c_is_name_text ?k_is_name_text ?a_read_rule ?l_read_rule ?c_read_rule ?k_read_rule ?a_read_grammar ?l_read_grammar ?c_read_grammar ?k_read_grammar ?a__law_kinds ?l__law_kinds ?c__law_kinds ?k__law_kinds ?a_shown_rule ?l_shown_rule ?c_shown_rule ?k_shown_rule ?a_shown_grammar ?l_shown_grammar ?c_shown_grammar ?k_shown_grammar ?a_law ?l_law ?c_law ?k_law ?h_z_ValueError ?h_z_all ?h_z_int ?h_z_isinstance ?h_z_len ?h_z_list ?h_z_range ?h_z_str ?h_z_tuple ?h_g_FIGURES ?h_g_GREAT_grammars ?h_g_GREAT_texts ?h_g_SMALL ?h_g_LONGEST ?h_g_MOST_FIGURES ?h_m_Endless ?h_m_GroveError ?h_m_NoGrammar ?h_m_NoOrder ?h_m_NoReading ?h_m_NoText ?h_m_TooMany ?eex_NoGrammar ?ekp_NoGrammar ?esb_NoGrammar ?ety_NoGrammar ?eex_NoText ?ekp_NoText ?esb_NoText ?ety_NoText ?xhg_NoGrammar ?xhk_NoGrammar ?xhd_NoGrammar ?xha_NoGrammar ?xhn_NoGrammar ?xht_NoGrammar ?xhm_NoGrammar ?xhg_NoText ?xhk_NoText ?xhd_NoText ?xha_NoText ?xhn_NoText ?xht_NoText ?xhm_NoText ?hk_NoGrammar_Endless ?hk_NoGrammar_NoGrammar ?hk_NoGrammar_NoOrder ?hk_NoGrammar_NoReading ?hk_NoGrammar_NoText ?hk_NoGrammar_TooMany ?hk_NoGrammar_ValueError ?hk_NoText_Endless ?hk_NoText_NoGrammar ?hk_NoText_NoOrder ?hk_NoText_NoReading ?hk_NoText_NoText ?hk_NoText_TooMany ?hk_NoText_ValueError ?hk_NoneType_Endless ?hk_NoneType_NoGrammar ?hk_NoneType_NoOrder ?hk_NoneType_NoReading ?hk_NoneType_NoText ?hk_NoneType_TooMany ?hk_NoneType_ValueError ?hk_NoneType_list ?hk_int_list ?hk_list_list ?hk_str_list ?hk_tuple_list ?qb_GroveError ?qd_GroveError ?qt_GroveError ?hq_NoGrammar_GroveError ?hq_NoText_GroveError G81.plain
    (case a__law_cell_at => k_is)
    (case l__law_cell_at => k_is)
    (case c__law_cell_at => k_is)
    (case k__law_cell_at => k_is)
    (case a__law_shown => k_is)
    (case l__law_shown => k_is)
    (case c__law_shown => k_is)
    (case k__law_shown => k_is)
    (case a__law_heads => k_is)
    (case l__law_heads => k_is)
    (case c__law_heads => k_is)
    (case k__law_heads => k_is)
    (case a__law_word => k_is)
    (case l__law_word => k_is)
    (case c__law_word => k_is)
    (case k__law_word => k_is)
    (case a__law_rule => k_is)
    (case l__law_rule => k_is)
    (case c__law_rule => k_is)
    (case k__law_rule => k_is)
    (case a__law_rules => k_is)
    (case l__law_rules => k_is)
    (case c__law_rules => k_is)
    (case k__law_rules => k_is)
    (case a__law_odd => k_is)
    (case l__law_odd => k_is)
    (case c__law_odd => k_is)
    (case k__law_odd => k_is)
    (case a__law_long => k_is)
    (case l__law_long => k_is)
    (case c__law_long => k_is)
    (case k__law_long => k_is)
    (case a__law_text => k_is)
    (case l__law_text => k_is)
    (case c__law_text => k_is)
    (case k__law_text => k_is)
    (case a__law_of => k_is)
    (case l__law_of => k_is)
    (case c__law_of => k_is)
    (case k__law_of => k_is)
    (case a__law_is_head => k_is)
    (case l__law_is_head => k_is)
    (case c__law_is_head => k_is)
    (case k__law_is_head => k_is)
    (case a__law_row => k_is)
    (case l__law_row => k_is)
    (case c__law_row => k_is)
    (case k__law_row => k_is)
    (case a__law_due => k_is)
    (case l__law_due => k_is)
    (case c__law_due => k_is)
    (case k__law_due => k_is)
    (case a_names => k_is)
    (case l_names => k_is)
    (case c_names => k_is)
    (case k_names => k_is)
    (case a_is_name => k_is)
    (case l_is_name => k_is)
    (case c_is_name => k_is)
    (case k_is_name => k_is)
    (case a_grammar_of => k_is)
    (case l_grammar_of => k_is)
    (case c_grammar_of => k_is)
    (case k_grammar_of => k_is)
    (case a_cost_of => k_is)
    (case l_cost_of => k_is)
    (case c_cost_of => k_is)
    (case k_cost_of => k_is)
    (case a_made_of => k_is)
    (case l_made_of => k_is)
    (case c_made_of => k_is)
    (case k_made_of => k_is)
    (case a_is_name_text => k_is)
    (case l_is_name_text => k_is)
    (case c_is_name_text => k_is)
    (case k_is_name_text => k_is)
    (case a_read_rule => k_is)
    (case l_read_rule => k_is)
    (case c_read_rule => k_is)
    (case k_read_rule => k_is)
    (case a_read_grammar => k_is)
    (case l_read_grammar => k_is)
    (case c_read_grammar => k_is)
    (case k_read_grammar => k_is)
    (case a__law_kinds => k_is)
    (case l__law_kinds => k_is)
    (case c__law_kinds => k_is)
    (case k__law_kinds => k_is)
    (case a_shown_rule => k_is)
    (case l_shown_rule => k_is)
    (case c_shown_rule => k_is)
    (case k_shown_rule => k_is)
    (case a_shown_grammar => k_is)
    (case l_shown_grammar => k_is)
    (case c_shown_grammar => k_is)
    (case k_shown_grammar => k_is)
    (case a_law => k_is)
    (case l_law => k_is)
    (case c_law => k_is)
    (case k_law => k_is)
    (case h_z_ValueError => k_is)
    (case h_z_all => k_is)
    (case h_z_int => k_is)
    (case h_z_isinstance => k_is)
    (case h_z_len => k_is)
    (case h_z_list => k_is)
    (case h_z_range => k_is)
    (case h_z_str => k_is)
    (case h_z_tuple => k_is)
    (case h_g_FIGURES => k_is)
    (case h_g_GREAT_grammars => k_is)
    (case h_g_GREAT_texts => k_is)
    (case h_g_SMALL => k_is)
    (case h_g_LONGEST => k_is)
    (case h_g_MOST_FIGURES => k_is)
    (case h_m_Endless => k_is)
    (case h_m_GroveError => k_is)
    (case h_m_NoGrammar => k_is)
    (case h_m_NoOrder => k_is)
    (case h_m_NoReading => k_is)
    (case h_m_NoText => k_is)
    (case h_m_TooMany => k_is)
    (case eex_NoGrammar => k_exc)
    (case ekp_NoGrammar => k_is)
    (case esb_NoGrammar => k_is)
    (case ety_NoGrammar => k_is)
    (case eex_NoText => k_exc)
    (case ekp_NoText => k_is)
    (case esb_NoText => k_is)
    (case ety_NoText => k_is)
    (case xhg_NoGrammar => k_is)
    (case xhk_NoGrammar => k_is)
    (case xhd_NoGrammar => k_is)
    (case xha_NoGrammar => k_is)
    (case xhn_NoGrammar => k_is)
    (case xht_NoGrammar => k_is)
    (case xhm_NoGrammar => k_is)
    (case xhg_NoText => k_is)
    (case xhk_NoText => k_is)
    (case xhd_NoText => k_is)
    (case xha_NoText => k_is)
    (case xhn_NoText => k_is)
    (case xht_NoText => k_is)
    (case xhm_NoText => k_is)
    (case hk_NoGrammar_Endless => kit_is)
    (case hk_NoGrammar_NoGrammar => kit_is)
    (case hk_NoGrammar_NoOrder => kit_is)
    (case hk_NoGrammar_NoReading => kit_is)
    (case hk_NoGrammar_NoText => kit_is)
    (case hk_NoGrammar_TooMany => kit_is)
    (case hk_NoGrammar_ValueError => kit_is)
    (case hk_NoText_Endless => kit_is)
    (case hk_NoText_NoGrammar => kit_is)
    (case hk_NoText_NoOrder => kit_is)
    (case hk_NoText_NoReading => kit_is)
    (case hk_NoText_NoText => kit_is)
    (case hk_NoText_TooMany => kit_is)
    (case hk_NoText_ValueError => kit_is)
    (case hk_NoneType_Endless => kit_is)
    (case hk_NoneType_NoGrammar => kit_is)
    (case hk_NoneType_NoOrder => kit_is)
    (case hk_NoneType_NoReading => kit_is)
    (case hk_NoneType_NoText => kit_is)
    (case hk_NoneType_TooMany => kit_is)
    (case hk_NoneType_ValueError => kit_is)
    (case hk_NoneType_list => kit_is)
    (case hk_int_list => kit_is)
    (case hk_list_list => kit_is)
    (case hk_str_list => kit_is)
    (case hk_tuple_list => kit_is)
    (case qb_GroveError => k_is)
    (case qd_GroveError => k_is)
    (case qt_GroveError => k_is)
    (case hq_NoGrammar_GroveError => k_is)
    (case hq_NoText_GroveError => k_is)

