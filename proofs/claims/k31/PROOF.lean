import PyProof.Rows.All
import Wide.All
import OpenK.AllK
import Wide.FinOn
import HandS.ForMost
import HandS.ForExc
import HandS.Wide
import HandS.Gcd
import HandS.IsInst
import HandS.Lambda
import HandS.EndTab
import HandS.TupAny
import HandS.TupMul
import HandS.Deep
import HandS.Star
import HandS.Iter
import KE.GoesEnum
import KE.GoesMore
import KE.GoesZip
import HandS.Style
import HandS.ExcOwn
import HandS.ExcIs
import HandS.Small
import HandS.DictComp
import HandS.Sort
import PySem.Challenge.RW_throwplanes_k31_whole_changes_of_rows
set_option Elab.async false
set_option linter.all false
set_option maxRecDepth 100000
set_option maxHeartbeats 4000000
/-! TP, part 1: data, what stands for a datum in the abstract heap, states, results. -/
namespace TP
open PySem L2

/-- plain data -/
inductive D where
  | non | bl (b : Bool) | int (i : Int) | str (x : Str)
  | tup (l : List D) | lst (l : List D)
  | dic (ks : List Key) (vs : List D)
  | err (c : Nat) (fn : List Str) (fs : List D)
  | draw
  | scr (l : List Int)
  deriving Inhabited

/-- the state of the draws -/
structure Dr where
  large : List Int
  rest : Int
  cells : List Int
  turn : Int

/-- an error of the program: the number of its class, its fields -/
structure Ex where
  c : Nat
  fn : List Str
  fs : List D

/-- what a computation comes to -/
inductive Res (α : Type) where
  | ok (a : α) (dr : Dr)
  | exc (x : Ex) (dr : Dr)
  | fail
def Res.bind {α β : Type} (r : Res α) (k : α → Dr → Res β) : Res β :=
  match r with
  | .ok a dr => k a dr
  | .exc x dr => .exc x dr
  | .fail => .fail

/-- where the draws' dict, their list of large numbers and their list of cells stand -/
structure Lo where
  d : Addr
  lg : Addr
  cl : Addr
/-- what a call may write -/
def Pl0 : Option Lo → Addr → Prop
  | none, _ => False
  | some l, a => a = l.d ∨ a = l.lg
/-- where draws' own objects stand -/
def Dl0 : Option Lo → Addr → Prop
  | none, _ => False
  | some l, a => a = l.d ∨ a = l.lg ∨ a = l.cl
theorem Pl0.dl {L : Option Lo} {a : Addr} (h : Pl0 L a) : Dl0 L a := by
  cases L with
  | none => exact h
  | some l => exact h.elim .inl fun q => .inr (.inl q)
/-- the draws' objects, the tables of code objects -/
structure Lx where
  lo : Option Lo
  T : List (Addr × Str)
def Pl (L : Lx) (a : Addr) : Prop := Pl0 L.lo a ∨ a ∈ L.T.map (·.1)
def Dl (L : Lx) (a : Addr) : Prop := Dl0 L.lo a ∨ a ∈ L.T.map (·.1)
theorem Pl.dl {L : Lx} {a : Addr} (h : Pl L a) : Dl L a := h.elim (fun z => .inl z.dl) .inr
/-- an error's object -/
def ErrO (a : Addr) (c : Value) (dd : Option Addr) : HO := .ext fun h => ∃ o, h.get? a = some o ∧ Zc c dd o ∧ ∃ vs, o.data = .fields vs

/-- the program's classes of errors, the tables of code objects -/
structure Ce where
  cls : Nat → Addr
  T : List (Addr × Str)
/-- all that was tracked stands as it was, but what calls may write -/
def NT (o : HO) : Prop := ∀ ps, o ≠ .tbl ps
theorem NT.lst {xs : List V} : NT (.lst xs) := fun _ z => by cases z
theorem NT.tup {xs : List V} : NT (.tup xs) := fun _ z => by cases z
theorem NT.frz {o : Obj} {u : HO} : NT (.frz o u) := fun _ z => by cases z
theorem NT.dK {xs : List (Key × V)} : NT (.dK xs) := fun _ z => by cases z
theorem NT.xd {xs : List (Str × V)} : NT (.xd xs) := fun _ z => by cases z
theorem NT.ext {φ : Heap → Prop} : NT (.ext φ) := fun _ z => by cases z
/-- nothing, or a table of code objects -/
def Nn (x : Option HO) : Prop := ∀ o, x = some o → ¬ NT o
theorem Nn.of {x : Option HO} (h : x = none) : Nn x := fun o e _ => by rw [h] at e; cases e
/-- (tables of code objects apart) -/
def Ext (L : Lx) (H H' : Hp) : Prop := ∀ b o, H b = some o → ¬ Pl L b → NT o → H' b = some o
theorem Ext.refl {L : Lx} {H : Hp} : Ext L H H := fun _ _ h _ _ => h
theorem Ext.trans {L : Lx} {H H1 H2 : Hp} (a : Ext L H H1) (b : Ext L H1 H2) : Ext L H H2 := fun c o h n t => b c o (a c o h n t) n t
theorem Ext.back {L : Lx} {H H1 : Hp} {p : Addr} (e : Ext L H H1) (h : H1 p = none) (n : ¬ Pl L p) : Nn (H p) := fun o e1 t => by
  rw [e p o e1 n t] at h
  cases h
theorem Ext.new {L : Lx} {H : Hp} {p : Addr} {o : HO} (h : H p = none) : Ext L H (upd H p o) := fun b u e _ _ => by
  rw [upd_ne (ne_of_none e h)]
  exact e

/-- the script: a list of ints that nobody writes -/
def ScrAt (K : PySem.W.Frag) (H : Hp) (A : Addr → Prop) (a : Addr) (xs : List V) : Prop := xs.length ≤ sizeLine ∧ ((Rd H a (.lst xs) ∧ ¬ A a) ∨ ∀ H', SqL K H' a xs)
/-- a list to be read, out of reach of writes -/
def LstAt (H : Hp) (A : Addr → Prop) (a : Addr) (xs : List V) : Prop := xs.length ≤ sizeLine ∧ H a = some (.lst xs) ∧ ¬ A a
def TupAt (K : PySem.W.Frag) (H : Hp) (A : Addr → Prop) (a : Addr) (xs : List V) : Prop :=
  xs.length ≤ sizeLine ∧ ((Rd H a (.tup xs) ∧ ¬ A a) ∨ ∀ H', SqT K H' a xs)

mutual
/-- the value v stands for the datum -/
inductive Rep (K : PySem.W.Frag) (ce : Ce) (L : Lx) (H : Hp) (A : Addr → Prop) : V → D → Prop
  | non : Rep K ce L H A .non .non
  | bl (b : Bool) : Rep K ce L H A (.bl b) (.bl b)
  | int (i : Int) : Rep K ce L H A (.int i) (.int i)
  | str (x : Str) : Rep K ce L H A (.str x) (.str x)
  | tup {a : Addr} {xs : List V} {l : List D} (h : TupAt K H A a xs) (r : Reps K ce L H A xs l) : Rep K ce L H A (.ref a) (.tup l)
  | lst {a : Addr} {xs : List V} {l : List D} (h : LstAt H A a xs) (r : Reps K ce L H A xs l) : Rep K ce L H A (.ref a) (.lst l)
  | dic {a : Addr} {ks : List Key} {us : List V} {vs : List D} (h : ∃ o, H a = some (.frz o (.dK (ks.zip us)))) (n : ¬ A a) (hl : ks.length = us.length) (r : Reps K ce L H A us vs) : Rep K ce L H A (.ref a) (.dic ks vs)
  | err0 {a : Addr} {c : Nat} (h : H a = some (ErrO a (.ref (ce.cls c)) none)) (n : ¬ A a) : Rep K ce L H A (.ref a) (.err c [] [])
  | errd {a d : Addr} {c : Nat} {fn : List Str} {us : List V} {fs : List D} (h : H a = some (ErrO a (.ref (ce.cls c)) (some d))) (n : ¬ A a) (hd : H d = some (.xd (fn.zip us))) (nd : ¬ A d) (hl : fn.length = us.length) (ne : fn ≠ []) (r : Reps K ce L H A us fs) : Rep K ce L H A (.ref a) (.err c fn fs)
  | draw {lo : Lo} (h : L.lo = some lo) : Rep K ce L H A (.ref lo.d) .draw
  | scr {a : Addr} {l : List Int} (h : ScrAt K H A a (l.map V.int)) : Rep K ce L H A (.ref a) (.scr l)
inductive Reps (K : PySem.W.Frag) (ce : Ce) (L : Lx) (H : Hp) (A : Addr → Prop) : List V → List D → Prop
  | nil : Reps K ce L H A [] []
  | cons {v : V} {d : D} {vs : List V} {ds : List D} (h : Rep K ce L H A v d) (t : Reps K ce L H A vs ds) : Reps K ce L H A (v :: vs) (d :: ds)
end

section
variable {K : PySem.W.Frag} {ce : Ce} {L : Lx} {H H' : Hp} {A A' : Addr → Prop}
theorem out_of {a : Addr} {o : HO} (h : H a = some o) (n : ¬ A a) (s : ∀ b, A' b → A b ∨ Nn (H b)) (t : NT o) : ¬ A' a := fun q => by
  rcases s a q with z | z
  · exact n z
  · exact z o h t
theorem LstAt.mono {a : Addr} {xs : List V} (h : LstAt H A a xs) (e : ∀ b o, ¬ A b → H b = some o → NT o → H' b = some o) (s : ∀ b, A' b → A b ∨ Nn (H b)) : LstAt H' A' a xs := by
  refine ⟨h.1, e _ _ h.2.2 h.2.1 .lst, fun q => ?_⟩
  exact out_of h.2.1 h.2.2 s .lst q
theorem TupAt.mono {a : Addr} {xs : List V} (h : TupAt K H A a xs) (e : ∀ b o, ¬ A b → H b = some o → NT o → H' b = some o) (s : ∀ b, A' b → A b ∨ Nn (H b)) : TupAt K H' A' a xs := by
  refine ⟨h.1, ?_⟩
  rcases h.2 with ⟨r, n⟩ | k
  · refine .inl ⟨?_, fun q => ?_⟩
    · rcases r with r | ⟨o, r⟩
      · exact .inl (e _ _ n r .tup)
      · exact .inr ⟨o, e _ _ n r .frz⟩
    · rcases r with r | ⟨o, r⟩
      · exact out_of r n s .tup q
      · exact out_of r n s .frz q
  · exact .inr k
theorem ScrAt.sq {a : Addr} {xs : List V} (h : ScrAt K H A a xs) : SqL K H a xs := h.2.elim (fun q => .inl q.1) fun q => q H
theorem ScrAt.mono {a : Addr} {xs : List V} (h : ScrAt K H A a xs) (e : ∀ b o, ¬ A b → H b = some o → NT o → H' b = some o) (s : ∀ b, A' b → A b ∨ Nn (H b)) : ScrAt K H' A' a xs := by
  refine ⟨h.1, ?_⟩
  rcases h.2 with ⟨r, n⟩ | k
  · refine .inl ⟨?_, ?_⟩
    · rcases r with r | ⟨o, r⟩
      · exact .inl (e _ _ n r .lst)
      · exact .inr ⟨o, e _ _ n r .frz⟩
    · rcases r with r | ⟨o, r⟩
      · exact out_of r n s .lst
      · exact out_of r n s .frz
  · exact .inr k
mutual
theorem Rep.mono {v : V} {d : D} (r : Rep K ce L H A v d) (e : ∀ b o, ¬ A b → H b = some o → NT o → H' b = some o) (s : ∀ b, A' b → A b ∨ Nn (H b)) : Rep K ce L H' A' v d :=
  match r with
  | .non => .non
  | .bl b => .bl b
  | .int i => .int i
  | .str x => .str x
  | .tup h r => .tup (h.mono e s) (r.mono e s)
  | .lst h r => .lst (h.mono e s) (r.mono e s)
  | .dic h n hl r => .dic (h.elim fun o q => ⟨o, e _ _ n q .frz⟩) (h.elim fun _ q => out_of q n s .frz) hl (r.mono e s)
  | .err0 h n => .err0 (e _ _ n h .ext) (out_of h n s .ext)
  | .errd h n hd nd hl ne r => .errd (e _ _ n h .ext) (out_of h n s .ext) (e _ _ nd hd .xd) (out_of hd nd s .xd) hl ne (r.mono e s)
  | .draw h => .draw h
  | .scr h => .scr (h.mono e s)
theorem Reps.mono {vs : List V} {ds : List D} (r : Reps K ce L H A vs ds) (e : ∀ b o, ¬ A b → H b = some o → NT o → H' b = some o) (s : ∀ b, A' b → A b ∨ Nn (H b)) : Reps K ce L H' A' vs ds :=
  match r with
  | .nil => .nil
  | .cons h t => .cons (h.mono e s) (t.mono e s)
end
theorem Reps.length : ∀ {vs : List V} {ds : List D}, Reps K ce L H A vs ds → vs.length = ds.length
  | _, _, .nil => rfl
  | _, _, .cons _ t => congrArg (· + 1) t.length
theorem Reps.append : ∀ {vs us : List V} {ds es : List D}, Reps K ce L H A vs ds → Reps K ce L H A us es → Reps K ce L H A (vs ++ us) (ds ++ es)
  | _, _, _, _, .nil, q => q
  | _, _, _, _, .cons h t, q => .cons h (t.append q)
theorem Reps.get : ∀ {vs : List V} {ds : List D} {i : Nat} {d : D}, Reps K ce L H A vs ds → ds[i]? = some d → ∃ v, vs[i]? = some v ∧ Rep K ce L H A v d
  | _, _, _, _, .nil, e => by simp at e
  | _, _, 0, _, .cons h _, e => by
    simp at e
    subst e
    exact ⟨_, rfl, h⟩
  | _, _, i + 1, _, .cons _ t, e => by
    obtain ⟨v, h1, h2⟩ := t.get (i := i) (by simpa using e)
    exact ⟨v, by simpa using h1, h2⟩
theorem Reps.get' : ∀ {vs : List V} {ds : List D} {i : Nat} {v : V}, Reps K ce L H A vs ds → vs[i]? = some v → ∃ d, ds[i]? = some d ∧ Rep K ce L H A v d
  | _, _, _, _, .nil, e => by simp at e
  | _, _, 0, _, .cons h _, e => by
    simp at e
    subst e
    exact ⟨_, rfl, h⟩
  | _, _, i + 1, _, .cons _ t, e => by
    obtain ⟨v, h1, h2⟩ := t.get' (i := i) (by simpa using e)
    exact ⟨v, by simpa using h1, h2⟩
theorem Reps.take : ∀ {vs : List V} {ds : List D} (n : Nat), Reps K ce L H A vs ds → Reps K ce L H A (vs.take n) (ds.take n)
  | _, _, 0, _ => .nil
  | _, _, _ + 1, .nil => .nil
  | _, _, n + 1, .cons h t => .cons h (t.take n)
theorem Reps.drop : ∀ {vs : List V} {ds : List D} (n : Nat), Reps K ce L H A vs ds → Reps K ce L H A (vs.drop n) (ds.drop n)
  | _, _, 0, r => r
  | _, _, _ + 1, .nil => .nil
  | _, _, n + 1, .cons _ t => t.drop n
theorem Reps.set {v : V} {d : D} (h : Rep K ce L H A v d) : ∀ {vs : List V} {ds : List D} (i : Nat), Reps K ce L H A vs ds → Reps K ce L H A (vs.set i v) (ds.set i d)
  | _, _, _, .nil => .nil
  | _, _, 0, .cons _ t => .cons h t
  | _, _, i + 1, .cons q t => .cons q (t.set h i)
theorem LstAt.sq {a : Addr} {xs : List V} (h : LstAt H A a xs) : SqL K H a xs := .of h.2.1
theorem TupAt.sq {a : Addr} {xs : List V} (h : TupAt K H A a xs) : SqT K H a xs := h.2.elim (fun q => .inl q.1) fun q => q H
end

/-- a name's place: nothing known, a datum, a list (a dict) of the call's own that may be written -/
inductive Sl where
  | un | val (d : D) | own (l : List D) | owd (ks : List Key) (vs : List D)
  deriving Inhabited
def Sl.mine : Sl → Bool
  | .own _ => true
  | .owd _ _ => true
  | _ => false

/-- the call's ground: where draws stand, the heap and the addresses to be spared at the entry, the addresses to be spared now -/
structure Gm where
  L : Lx
  H0 : Hp
  A0 : Addr → Prop
  A : Addr → Prop

/-- how large draws' numbers are has no bound here; the places differ -/
def GOk0 (K : PySem.W.Frag) (H : Hp) : Option Lo → Dr → Prop
  | none, _ => True
  | some lo, dr => H lo.d = some (.dK [(.inr "large", .ref lo.lg), (.inr "rest", .int dr.rest), (.inr "cells", .ref lo.cl), (.inr "turn", .int dr.turn)]) ∧
      H lo.lg = some (.lst (dr.large.map V.int)) ∧ H lo.cl = some (.lst (dr.cells.map V.int)) ∧ lo.cl ≠ lo.d ∧ lo.cl ≠ lo.lg ∧ dr.large.length ≤ 63 ∧ dr.cells.length ≤ 63

def GOk (K : PySem.W.Frag) (H : Hp) (L : Lx) (dr : Dr) : Prop := GOk0 K H L.lo dr ∧ LamX.Tabs L.T H
def OwnL (K : PySem.W.Frag) (ce : Ce) (g : Gm) (H : Hp) (v : V) (l : List D) : Prop :=
  ∃ p xs, v = .ref p ∧ g.A p ∧ ¬ Dl g.L p ∧ Nn (g.H0 p) ∧ xs.length ≤ sizeLine ∧ H p = some (.lst xs) ∧ Reps K ce g.L H g.A xs l
def OwnD (K : PySem.W.Frag) (ce : Ce) (g : Gm) (H : Hp) (v : V) (ks : List Key) (vs : List D) : Prop :=
  ∃ p us, v = .ref p ∧ g.A p ∧ ¬ Dl g.L p ∧ Nn (g.H0 p) ∧ ks.length = us.length ∧ H p = some (.dK (ks.zip us)) ∧ Reps K ce g.L H g.A us vs
def SlR (K : PySem.W.Frag) (ce : Ce) (g : Gm) (H : Hp) : Option V → Sl → Prop
  | _, .un => True
  | some v, .val d => Rep K ce g.L H g.A v d
  | some v, .own l => OwnL K ce g H v l
  | some v, .owd ks vs => OwnD K ce g H v ks vs
  | none, _ => False

/-- the slots σ and the heap H bear the state ρ and the draws dr -/
structure SR (K : PySem.W.Frag) (ce : Ce) (g : Gm) (H : Hp) (σ : St) (ρ : List Sl) (dr : Dr) : Prop where
  ext : Ext g.L g.H0 H
  tt : g.L.T = ce.T
  nc : ∀ lo, g.L.lo = some lo → ¬ g.A lo.cl
  a0 : ∀ a, g.A0 a → Pl g.L a ∨ ∃ o, g.H0 a = some o ∧ NT o
  sub : ∀ a, g.A0 a → g.A a
  pl : ∀ a, Pl g.L a → g.A a
  tr : ∀ a, g.A a → Pl g.L a ∨ ∃ o, H a = some o ∧ NT o
  gk : GOk K H g.L dr
  len : ρ.length = σ.length
  sl : ∀ i s, ρ[i]? = some s → SlR K ce g H (σ.getD i none) s
  dj : ∀ i j s t, i ≠ j → ρ[i]? = some s → ρ[j]? = some t → s.mine = true → t.mine = true → σ.getD i none ≠ σ.getD j none

section
variable {K : PySem.W.Frag} {ce : Ce} {g : Gm} {H H' : Hp} {σ : St} {ρ : List Sl} {dr dr' : Dr}
theorem SR.far (S : SR K ce g H σ ρ dr) (e : Ext g.L H H') : ∀ b o, ¬ g.A b → H b = some o → NT o → H' b = some o := fun b o n h => e b o h fun q => n (S.pl b q)
theorem SR.rep (S : SR K ce g H σ ρ dr) (e : Ext g.L H H') {v : V} {d : D} (r : Rep K ce g.L H g.A v d) : Rep K ce g.L H' g.A v d := r.mono (S.far e) fun _ h => .inl h
theorem SR.reps (S : SR K ce g H σ ρ dr) (e : Ext g.L H H') {v : List V} {d : List D} (r : Reps K ce g.L H g.A v d) : Reps K ce g.L H' g.A v d := r.mono (S.far e) fun _ h => .inl h
theorem Tabs.upd {T : List (Addr × Str)} {p : Addr} {o : HO} (t : LamX.Tabs T H) (h : p ∉ T.map (·.1)) (hn : ∀ φ, H p ≠ some (.ext φ)) : LamX.Tabs T (upd H p o) := fun q hq => by
  obtain ⟨ps, h1, h2, h3⟩ := t q hq
  refine ⟨ps, ?_, h2, fun pos cv e => ?_⟩
  · rw [upd_ne fun z => h (by rw [← z]; exact List.mem_map.mpr ⟨q, hq, rfl⟩)]
    exact h1
  · obtain ⟨c, e1, e2⟩ := h3 pos cv e
    refine ⟨c, e1, ?_⟩
    rw [upd_ne fun z => hn _ (by rw [← z]; exact e2)]
    exact e2
theorem GOk.keep {L : Lx} (q : GOk K H L dr) (e : ∀ b o, H b = some o → H' b = some o) : GOk K H' L dr := by
  obtain ⟨q, t⟩ := q
  refine ⟨?_, LamX.Tabs.ext t e⟩
  cases hL : L.lo with
  | none => trivial
  | some lo =>
    rw [hL] at q
    obtain ⟨h1, h2, h3, h4⟩ := q
    exact ⟨e _ _ h1, e _ _ h2, e _ _ h3, h4⟩
theorem GOk.new {L : Lx} {p : Addr} {o : HO} (q : GOk K H L dr) (h : H p = none) : GOk K (upd H p o) L dr := q.keep fun b u e => by
  rw [upd_ne (ne_of_none e h)]
  exact e
/-- what is none of draws' objects is written -/
theorem GOk.upd {L : Lx} {p : Addr} {o : HO} (q : GOk K H L dr) (h : ¬ Dl L p) (hn : ∀ φ, H p ≠ some (.ext φ)) : GOk K (upd H p o) L dr := by
  obtain ⟨q, t⟩ := q
  refine ⟨?_, Tabs.upd t (fun z => h (.inr z)) hn⟩
  have h : ¬ Dl0 L.lo p := fun z => h (.inl z)
  cases hL : L.lo with
  | none => trivial
  | some lo =>
    rw [hL] at q h
    obtain ⟨h1, h2, h3, h4⟩ := q
    exact ⟨by rw [upd_ne fun e => h (.inl e.symm)]; exact h1, by rw [upd_ne fun e => h (.inr (.inl e.symm))]; exact h2, by rw [upd_ne fun e => h (.inr (.inr e.symm))]; exact h3, h4⟩
theorem GOk.not {L : Lx} {p : Addr} (q : GOk K H L dr) (h : H p = none) : ¬ Dl L p := fun z => by
  obtain ⟨q, t⟩ := q
  rcases z with z | z
  · cases hL : L.lo with
    | none => rw [hL] at z; exact z
    | some lo =>
      rw [hL] at q z
      obtain ⟨h1, h2, h3, h4⟩ := q
      rcases z with z | z | z
      · rw [← z, h] at h1; cases h1
      · rw [← z, h] at h2; cases h2
      · rw [← z, h] at h3; cases h3
  · obtain ⟨q, hq, e⟩ := List.mem_map.mp z
    obtain ⟨ps, h1, _⟩ := t q hq
    rw [e, h] at h1
    cases h1
theorem GOk.pl {L : Lx} {a : Addr} (q : GOk K H L dr) (h : Pl L a) : H a ≠ none := by
  obtain ⟨q, t⟩ := q
  rcases h with z | z
  · cases hL : L.lo with
    | none => rw [hL] at z; exact z.elim
    | some lo =>
      rw [hL] at q z
      rcases z with hp | hp
      · rw [hp, q.1]; exact fun z => by cases z
      · rw [hp, q.2.1]; exact fun z => by cases z
  · obtain ⟨q, hq, e⟩ := List.mem_map.mp z
    obtain ⟨ps, h1, _⟩ := t q hq
    rw [← e, h1]
    exact fun z => by cases z
/-- the heap goes on, the draws go on -/
theorem SR.step (S : SR K ce g H σ ρ dr) (e : Ext g.L H H') (q : GOk K H' g.L dr') : SR K ce g H' σ ρ dr' where
  ext := S.ext.trans e
  tt := S.tt
  nc := S.nc
  a0 := S.a0
  sub := S.sub
  pl := S.pl
  tr := fun a ha => by
    by_cases hp : Pl g.L a
    · exact .inl hp
    · rcases S.tr a ha with z | ⟨o, h1, h2⟩
      · exact absurd z hp
      · exact .inr ⟨o, e a o h1 hp h2, h2⟩
  gk := q
  len := S.len
  sl := fun i s hs => by
    have h := S.sl i s hs
    cases hv : σ.getD i none with
    | none => rw [hv] at h; cases s <;> first | exact h | exact h.elim
    | some v =>
      rw [hv] at h
      cases s with
      | un => exact h
      | val d => exact S.rep e h
      | own l =>
        obtain ⟨p, xs, e1, h1, h2, h3, h4, h5, h6⟩ := h
        exact ⟨p, xs, e1, h1, h2, h3, h4, e _ _ h5 (fun z => h2 z.dl) (by first | exact .lst | exact .dK), S.reps e h6⟩
      | owd ks vs =>
        obtain ⟨p, xs, e1, h1, h2, h3, h4, h5, h6⟩ := h
        exact ⟨p, xs, e1, h1, h2, h3, h4, e _ _ h5 (fun z => h2 z.dl) (by first | exact .lst | exact .dK), S.reps e h6⟩
  dj := S.dj
theorem SR.trn (S : SR K ce g H σ ρ dr) (a : Addr) (h : g.A a) : H a ≠ none := by
  rcases S.tr a h with z | ⟨o, h1, h2⟩
  · exact S.gk.pl z
  · rw [h1]; exact fun z => by cases z
/-- a new object is laid -/
theorem SR.new (S : SR K ce g H σ ρ dr) {p : Addr} {o : HO} (h : H p = none) : SR K ce g (upd H p o) σ ρ dr := S.step (.new h) (S.gk.new h)
end

/-! ### what is wanted behind a computation -/
/-- an exception in the air stands for an error -/
def ExcR (K : PySem.W.Frag) (ce : Ce) (L : Lx) (H : Hp) (A : Addr → Prop) (c : Value) (dd : Option Addr) (x : Ex) : Prop :=
  c = .ref (ce.cls x.c) ∧ ((dd = none ∧ x.fn = [] ∧ x.fs = []) ∨ ∃ d us, dd = some d ∧ H d = some (.xd (x.fn.zip us)) ∧ ¬ A d ∧ x.fn.length = us.length ∧ x.fn ≠ [] ∧ Reps K ce L H A us x.fs)
theorem ExcR.mono {K : PySem.W.Frag} {ce : Ce} {L : Lx} {H H' : Hp} {A A' : Addr → Prop} {c : Value} {dd : Option Addr} {x : Ex} (h : ExcR K ce L H A c dd x) (e : ∀ b o, ¬ A b → H b = some o → NT o → H' b = some o) (s : ∀ b, A' b → A b ∨ Nn (H b)) : ExcR K ce L H' A' c dd x := by
  refine ⟨h.1, h.2.elim .inl fun ⟨d, us, e1, h1, h2, h3, ne, h4⟩ => .inr ⟨d, us, e1, e _ _ h2 h1 .xd, out_of h1 h2 s .xd, h3, ne, h4.mono e s⟩⟩

def Post {α : Type} (K : PySem.W.Frag) (ce : Ce) (W : WX) (g : Gm) (σ : St) (ρ : List Sl) (H : Hp) (r : Res α) (ok : α → Dr → Hp → Prop) : Prop :=
  match r with
  | .ok a dr' => ∀ H', Ext g.L H H' → SR K ce g H' σ ρ dr' → ok a dr' H'
  | .exc x dr' => ∀ H' c dd, Ext g.L H H' → SR K ce g H' σ ρ dr' → ExcR K ce g.L H' g.A c dd x → W c dd σ H'
  | .fail => False
section
variable {α β : Type} {K : PySem.W.Frag} {ce : Ce} {W : WX} {g : Gm} {H H' H1 : Hp} {σ : St} {ρ : List Sl} {dr dr' : Dr}
theorem Post.ext {r : Res α} {ok : α → Dr → Hp → Prop} (h : Post K ce W g σ ρ H r ok) (e : Ext g.L H H1) : Post K ce W g σ ρ H1 r ok := by
  cases r with
  | ok a dr' => exact fun H' e' S => h H' (e.trans e') S
  | exc x dr' => exact fun H' c dd e' S X => h H' c dd (e.trans e') S X
  | fail => exact h
theorem Post.mono {r : Res α} {ok ok' : α → Dr → Hp → Prop} (h : Post K ce W g σ ρ H r ok) (m : ∀ a dr' H', r = .ok a dr' → Ext g.L H H' → SR K ce g H' σ ρ dr' → ok a dr' H' → ok' a dr' H') : Post K ce W g σ ρ H r ok' := by
  cases r with
  | ok a dr' => exact fun H' e' S => m a dr' H' rfl e' S (h H' e' S)
  | exc x dr' => exact h
  | fail => exact h
theorem Post.bind {r : Res α} {k : α → Dr → Res β} {ok : β → Dr → Hp → Prop} (h : Post K ce W g σ ρ H (r.bind k) ok) : Post K ce W g σ ρ H r fun a dr1 H1 => Post K ce W g σ ρ H1 (k a dr1) ok := by
  cases r with
  | ok a dr' => exact fun H' e' S => Post.ext (show Post K ce W g σ ρ H (k a dr') ok from h) e'
  | exc x dr' => exact h
  | fail => exact h
theorem Post.ok {a : α} {ok : α → Dr → Hp → Prop} (h : Post K ce W g σ ρ H (.ok a dr) ok) (S : SR K ce g H σ ρ dr) : ok a dr H := h H .refl S
end

/-! ### semantics: of expressions, of lists of them, of tests -/
abbrev ES := List Sl → Dr → Res D
abbrev LS := List Sl → Dr → Res (List D)
abbrev BS := List Sl → Dr → Res Bool

/-- a list that is read though it is the call's own -/
def RepB (K : PySem.W.Frag) (ce : Ce) (g : Gm) (H : Hp) (v : V) (d : D) : Prop :=
  Rep K ce g.L H g.A v d ∨ (∃ p xs l, v = .ref p ∧ d = .lst l ∧ xs.length ≤ sizeLine ∧ H p = some (.lst xs) ∧ ¬ Pl g.L p ∧ Reps K ce g.L H g.A xs l) ∨
    ∃ p ks us vs, v = .ref p ∧ d = .dic ks vs ∧ ks.length = us.length ∧ H p = some (.dK (ks.zip us)) ∧ ¬ Pl g.L p ∧ Reps K ce g.L H g.A us vs
theorem RepB.step {K : PySem.W.Frag} {ce : Ce} {g : Gm} {H H' : Hp} {σ : St} {ρ : List Sl} {dr : Dr} {v : V} {d : D} (S : SR K ce g H σ ρ dr) (e : Ext g.L H H') (r : RepB K ce g H v d) : RepB K ce g H' v d := by
  rcases r with r | ⟨p, xs, l, e1, e2, h1, h2, h3, h4⟩ | ⟨p, xs, l, l2, e1, e2, h1, h2, h3, h4⟩
  · exact .inl (S.rep e r)
  · exact .inr (.inl ⟨p, xs, l, e1, e2, h1, e _ _ h2 h3 (by first | exact .lst | exact .dK), h3, S.reps e h4⟩)
  · exact .inr (.inr ⟨p, xs, l, l2, e1, e2, h1, e _ _ h2 h3 (by first | exact .lst | exact .dK), h3, S.reps e h4⟩)

def tE (K : PySem.W.Frag) (ce : Ce) (W : WX) (e : ES) : TE := fun σ H Q => ∃ (g : Gm) (ρ : List Sl) (dr : Dr), SR K ce g H σ ρ dr ∧
  Post K ce W g σ ρ H (e ρ dr) fun d _ H' => ∀ v, Rep K ce g.L H' g.A v d → Q v H'
def tB (K : PySem.W.Frag) (ce : Ce) (W : WX) (e : ES) : TE := fun σ H Q => ∃ (g : Gm) (ρ : List Sl) (dr : Dr), SR K ce g H σ ρ dr ∧
  Post K ce W g σ ρ H (e ρ dr) fun d _ H' => ∀ v, RepB K ce g H' v d → Q v H'
/-- a new list (nobody else has it) -/
def tF (K : PySem.W.Frag) (ce : Ce) (W : WX) (e : LS) : TE := fun σ H Q => ∃ (g : Gm) (ρ : List Sl) (dr : Dr), SR K ce g H σ ρ dr ∧
  Post K ce W g σ ρ H (e ρ dr) fun l _ H' => ∀ p xs, Nn (H p) → ¬ Dl g.L p → H' p = some (.lst xs) → xs.length ≤ sizeLine → Reps K ce g.L H' (fun a => g.A a ∨ a = p) xs l → Q (.ref p) H'
def tA' (K : PySem.W.Frag) (ce : Ce) (W : WX) (e : LS) : TA := fun σ H Q => ∃ (g : Gm) (ρ : List Sl) (dr : Dr), SR K ce g H σ ρ dr ∧
  Post K ce W g σ ρ H (e ρ dr) fun ds _ H' => ∀ vs, Reps K ce g.L H' g.A vs ds → Q vs H'
def tT (K : PySem.W.Frag) (ce : Ce) (W : WX) (e : BS) : TT := fun σ H Q => ∃ (g : Gm) (ρ : List Sl) (dr : Dr), SR K ce g H σ ρ dr ∧
  Post K ce W g σ ρ H (e ρ dr) fun b _ H' => Q b H'

abbrev YE (X : Cx) (ce : Ce) (W : WX) (ex : Expr) (e : ES) : Prop := PE X ex (tE X.K ce W e)
abbrev YB (X : Cx) (ce : Ce) (W : WX) (ex : Expr) (e : ES) : Prop := PE X ex (tB X.K ce W e)
abbrev YF (X : Cx) (ce : Ce) (W : WX) (ex : Expr) (e : LS) : Prop := PE X ex (tF X.K ce W e)
abbrev YA (X : Cx) (ce : Ce) (W : WX) (es : List Expr) (e : LS) : Prop := PA X es (tA' X.K ce W e)
abbrev YT (X : Cx) (ce : Ce) (W : WX) (ex : Expr) (e : BS) : Prop := PT X ex (tT X.K ce W e)

theorem pe_imp {X : Cx} {e : Expr} {t t' : TE} (h : PE X e t) (i : ∀ σ H Q, t' σ H Q → t σ H Q) : PE X e t' := ⟨fun pins s σ H Q I q => h.run pins s σ H Q I (i σ H Q q)⟩
theorem pt_imp {X : Cx} {e : Expr} {t t' : TT} (h : PT X e t) (i : ∀ σ H Q, t' σ H Q → t σ H Q) : PT X e t' := ⟨fun pins s σ H Q I q => h.run pins s σ H Q I (i σ H Q q)⟩
theorem pw_imp {X : Cx} {e : Expr} {t t' : TT} (h : PW X e t) (i : ∀ σ H Q, t' σ H Q → t σ H Q) : PW X e t' := ⟨fun wh pins s σ H Q I q => h.run wh pins s σ H Q I (i σ H Q q)⟩
theorem pa_imp {X : Cx} {e : List Expr} {t t' : TA} (h : PA X e t) (i : ∀ σ H Q, t' σ H Q → t σ H Q) : PA X e t' := ⟨fun pos pins s σ H Q I q => h.run pos pins s σ H Q I (i σ H Q q)⟩
theorem ps_imp {X : Cx} {e : Stmt} {t t' : TS} (h : PS X e t) (i : ∀ D σ H, t' D σ H → t D σ H) : PS X e t' := ⟨fun pins s σ H D I q => h.run pins s σ H D I (i D σ H q)⟩
theorem pss_imp {X : Cx} {e : List Stmt} {t t' : TS} (h : PSs X e t) (i : ∀ D σ H, t' D σ H → t D σ H) : PSs X e t' := ⟨fun pins s σ H D I q => h.run pins s σ H D I (i D σ H q)⟩

end TP

set_option Elab.async false
set_option linter.all false
set_option maxRecDepth 100000
set_option maxHeartbeats 4000000
/-! TP, part 2: operations by values bear operations on data. -/
namespace TP
open PySem L2
open PyProof.Rows (sub_bool)

section
variable {K : PySem.W.Frag} {ce : Ce} {g : Gm} {H : Hp} {σ : St} {ρ : List Sl} {dr : Dr} {v : V}
theorem RepB.of {d : D} (r : Rep K ce g.L H g.A v d) : RepB K ce g H v d := .inl r
theorem RepB.int {i : Int} (r : RepB K ce g H v (.int i)) : v = .int i := by
  rcases r with r | ⟨p, xs, l, e1, e2, _⟩ | ⟨p, xs, l, l2, e1, e2, _⟩
  · cases r; rfl
  · cases e2
  · cases e2
theorem RepB.bl {i : Bool} (r : RepB K ce g H v (.bl i)) : v = .bl i := by
  rcases r with r | ⟨p, xs, l, e1, e2, _⟩ | ⟨p, xs, l, l2, e1, e2, _⟩
  · cases r; rfl
  · cases e2
  · cases e2
theorem RepB.str {i : Str} (r : RepB K ce g H v (.str i)) : v = .str i := by
  rcases r with r | ⟨p, xs, l, e1, e2, _⟩ | ⟨p, xs, l, l2, e1, e2, _⟩
  · cases r; rfl
  · cases e2
  · cases e2
theorem RepB.non (r : RepB K ce g H v .non) : v = .non := by
  rcases r with r | ⟨p, xs, l, e1, e2, _⟩ | ⟨p, xs, l, l2, e1, e2, _⟩
  · cases r; rfl
  · cases e2
  · cases e2
theorem RepB.lst {l : List D} (r : RepB K ce g H v (.lst l)) : ∃ p xs, v = .ref p ∧ xs.length ≤ sizeLine ∧ H p = some (.lst xs) ∧ Reps K ce g.L H g.A xs l := by
  rcases r with r | ⟨p, xs, l', e1, e2, h1, h2, _, h3⟩ | ⟨p, xs, l, l2, e1, e2, _⟩
  · cases r with
    | lst h r => exact ⟨_, _, rfl, h.1, h.2.1, r⟩
  · cases e2
    exact ⟨p, xs, e1, h1, h2, h3⟩
  · cases e2
theorem RepB.tup {l : List D} (r : RepB K ce g H v (.tup l)) : ∃ p xs, v = .ref p ∧ xs.length ≤ sizeLine ∧ SqT K H p xs ∧ Reps K ce g.L H g.A xs l ∧ Rep K ce g.L H g.A v (.tup l) := by
  rcases r with r | ⟨p, xs, l', e1, e2, h1, h2, _, h3⟩ | ⟨p, xs, l, l2, e1, e2, _⟩
  · cases id r with
    | tup h q => exact ⟨_, _, rfl, h.1, h.sq, q, r⟩
  · cases e2
  · cases e2
theorem RepB.dic {ks : List Key} {vs : List D} (r : RepB K ce g H v (.dic ks vs)) : ∃ p us, v = .ref p ∧ ks.length = us.length ∧ Rd H p (.dK (ks.zip us)) ∧ Reps K ce g.L H g.A us vs := by
  rcases r with r | ⟨p, xs, l', e1, e2, _⟩ | ⟨p, ks', us, l2, e1, e2, h1, h2, _, h3⟩
  · cases r with
    | dic h n hl r => exact ⟨_, _, rfl, hl, .inr h, r⟩
  · cases e2
  · cases e2
    exact ⟨p, us, e1, h1, .inl h2, h3⟩
theorem SR.out' (S : SR K ce g H σ ρ dr) {p : Addr} (h : Nn (H p)) (d : ¬ Dl g.L p) : ¬ g.A p := fun z => by
  rcases S.tr p z with q | ⟨o, h1, h2⟩
  · exact d q.dl
  · exact h o h1 h2
theorem SR.out (S : SR K ce g H σ ρ dr) {p : Addr} (h : H p = none) : ¬ g.A p := fun z => S.trn p z h
theorem SR.newR (S : SR K ce g H σ ρ dr) {p : Addr} {o : HO} (h : H p = none) {d : D} (r : Rep K ce g.L H g.A v d) : Rep K ce g.L (upd H p o) g.A v d := S.rep (.new h) r
theorem SR.newRs (S : SR K ce g H σ ρ dr) {p : Addr} {o : HO} (h : H p = none) {vs : List V} {ds : List D} (r : Reps K ce g.L H g.A vs ds) : Reps K ce g.L (upd H p o) g.A vs ds := S.reps (.new h) r
/-- a new list, a new tuple -/
theorem SR.lstN (S : SR K ce g H σ ρ dr) {p : Addr} {xs : List V} {l : List D} (h : H p = none) (hz : xs.length ≤ sizeLine) (r : Reps K ce g.L H g.A xs l) : Rep K ce g.L (upd H p (.lst xs)) g.A (.ref p) (.lst l) :=
  .lst ⟨hz, upd_same, S.out h⟩ (S.newRs h r)
theorem SR.tupN (S : SR K ce g H σ ρ dr) {p : Addr} {xs : List V} {l : List D} (h : H p = none) (hz : xs.length ≤ sizeLine) (r : Reps K ce g.L H g.A xs l) : Rep K ce g.L (upd H p (.tup xs)) g.A (.ref p) (.tup l) :=
  .tup ⟨hz, .inl ⟨.inl upd_same, S.out h⟩⟩ (S.newRs h r)
end

/-! ### operations on data -/
def b2 (b : Bool) : Int := if b then 1 else 0
def dAdd : D → D → Option D
  | .int i, .int j => some (.int (i + j))
  | .lst a, .lst b => if a.length + b.length ≤ sizeLine then some (.lst (a ++ b)) else none
  | .tup a, .tup b => if a.length + b.length ≤ sizeLine then some (.tup (a ++ b)) else none
  | .str x, .str y => if x.length + y.length ≤ sizeLine then some (.str (x ++ y)) else none
  | _, _ => none
def dSub : D → D → Option D
  | .int i, .int j => some (.int (i - j))
  | .bl i, .bl j => some (.int (b2 i - b2 j))
  | _, _ => none
/-- which products the machine gives -/
def mulB (i j : Int) : Bool := decide (i.natAbs < 2 ^ 64) || decide (j.natAbs < 2 ^ 64) || decide (i.natAbs.log2 + j.natAbs.log2 < 1000000)
theorem bits_le {i : Int} (h : i.natAbs < 2 ^ 64) : Builtin.Int.intBits i ≤ 64 := by
  have b : Builtin.Int.intBits i ≤ if i.natAbs = 0 then 0 else i.natAbs.log2 + 1 := by
    unfold Builtin.Int.intBits
    by_cases h0 : i = 0
    · subst h0
      simp
    · rw [if_neg (by simpa using h0), if_neg (by omega)]
      exact Nat.le_refl _
  split at b
  · omega
  · rename_i h0
    have := (Nat.log2_lt h0).mpr h
    omega
theorem mulB_ok {i j : Int} (h : mulB i j = true) : IntMulOk i j := by
  unfold mulB at h
  rw [Bool.or_eq_true, Bool.or_eq_true] at h
  rcases h with (h | h) | h
  · have := bits_le (of_decide_eq_true h)
    unfold IntMulOk
    intro z
    rw [Bool.and_eq_true, Bool.and_eq_true] at z
    have := of_decide_eq_true z.1.1
    unfold shortFactorBits at this
    omega
  · have := bits_le (of_decide_eq_true h)
    unfold IntMulOk
    intro z
    rw [Bool.and_eq_true, Bool.and_eq_true] at z
    have := of_decide_eq_true z.1.2
    unfold shortFactorBits at this
    omega
  · exact CMulW.ok (show i.natAbs.log2 + j.natAbs.log2 < 1000000 from of_decide_eq_true h)
theorem op_mulS {X : Cx} : OpR X (binaryOp .Mult) (rI (fun i j => mulB i j = true) fun i j => .int (i * j)) := opI fun _ _ _ _ _ _ _ hc q => PySem.P.mul_int q (mulB_ok hc)
def dMul : D → D → Option D
  | .int i, .int j => if mulB i j = true then some (.int (i * j)) else none
  | .lst a, .int k => if -1000 ≤ k ∧ k ≤ 1000 ∧ a.length ≤ 1000 then some (.lst (List.replicate k.toNat a).flatten) else none
  | .tup a, .int k => if a ≠ [] ∧ 2 ≤ k ∧ k ≤ 1000 ∧ a.length ≤ 1000 then some (.tup (List.replicate k.toNat a).flatten) else none
  | _, _ => none
def dDiv : D → D → Option D
  | .int i, .int j => if j ≠ 0 ∧ j.natAbs.log2 < 9000 then some (.int (i.fdiv j)) else none
  | _, _ => none
def dMod : D → D → Option D
  | .int i, .int j => if j ≠ 0 then some (.int (i.fmod j)) else none
  | _, _ => none
def dPow : D → D → Option D
  | .int i, .int j => if 0 ≤ j ∧ j ≤ 1000 ∧ i.natAbs < 2 ^ 64 then some (.int (i ^ j.toNat)) else none
  | _, _ => none
def dLt : D → D → Option D
  | .int i, .int j => some (.bl (decide (i < j)))
  | _, _ => none
def dLe : D → D → Option D
  | .int i, .int j => some (.bl (decide (i ≤ j)))
  | _, _ => none
def dGt : D → D → Option D
  | .int i, .int j => some (.bl (decide (j < i)))
  | _, _ => none
def dGe : D → D → Option D
  | .int i, .int j => some (.bl (decide (j ≤ i)))
  | _, _ => none
def D.isNon : D → Bool
  | .non => true
  | _ => false
def dIs : D → D → Option D
  | x, .non => some (.bl x.isNon)
  | _, _ => none
def dIsNot : D → D → Option D
  | x, .non => some (.bl (!x.isNon))
  | _, _ => none
def dNeg : D → Option D
  | .int i => some (.int (-i))
  | _ => none

/-! equality: data without dicts, of a bounded depth -/
mutual
def dEqv : D → D → Bool
  | .non, .non => true
  | .bl a, .bl b => a == b
  | .bl a, .int j => b2 a == j
  | .int i, .bl b => i == b2 b
  | .int i, .int j => i == j
  | .str x, .str y => x == y
  | .lst xs, .lst ys => dEqvs xs ys
  | .tup xs, .tup ys => dEqvs xs ys
  | _, _ => false
def dEqvs : List D → List D → Bool
  | [], [] => true
  | x :: xs, y :: ys => dEqv x y && dEqvs xs ys
  | _, _ => false
end
mutual
def dOk : Nat → D → Bool
  | _, .non => true
  | _, .bl _ => true
  | _, .int _ => true
  | _, .str x => PyData.strOk x
  | n + 1, .lst xs => dOks n xs
  | n + 1, .tup xs => dOks n xs
  | _, _ => false
def dOks : Nat → List D → Bool
  | _, [] => true
  | n, x :: xs => dOk n x && dOks n xs
end
mutual
def toPy : D → PyData
  | .non => .none
  | .bl b => .bool b
  | .int i => .int i
  | .str x => .str x
  | .lst xs => .list (toPys xs)
  | .tup xs => .tuple (toPys xs)
  | _ => .none
def toPys : List D → List PyData
  | [] => []
  | x :: xs => toPy x :: toPys xs
end
mutual
theorem eqv_toPy : ∀ (n : Nat) (m : Nat) (d e : D), dOk n d = true → dOk m e = true → PyData.eqv (toPy d) (toPy e) = dEqv d e
  | n, m, d, e, hd, he => by
    cases d with
    | lst xs =>
      cases e with
      | lst ys =>
        cases n with
        | zero => simp [dOk] at hd
        | succ n =>
          cases m with
          | zero => simp [dOk] at he
          | succ m =>
            simp only [toPy, PyData.eqv, dEqv]
            exact eqv_toPys n m xs ys (by simpa [dOk] using hd) (by simpa [dOk] using he)
      | _ => simp_all [toPy, PyData.eqv, dEqv, dOk]
    | tup xs =>
      cases e with
      | tup ys =>
        cases n with
        | zero => simp [dOk] at hd
        | succ n =>
          cases m with
          | zero => simp [dOk] at he
          | succ m =>
            simp only [toPy, PyData.eqv, dEqv]
            exact eqv_toPys n m xs ys (by simpa [dOk] using hd) (by simpa [dOk] using he)
      | _ => simp_all [toPy, PyData.eqv, dEqv, dOk]
    | _ => cases e <;> simp_all [toPy, PyData.eqv, dEqv, dOk, b2]
theorem eqv_toPys : ∀ (n : Nat) (m : Nat) (d e : List D), dOks n d = true → dOks m e = true → PyData.eqvAll (toPys d) (toPys e) = dEqvs d e
  | n, m, [], [], _, _ => by simp [toPys, PyData.eqvAll, dEqvs]
  | n, m, [], _ :: _, _, _ => by simp [toPys, PyData.eqvAll, dEqvs]
  | n, m, _ :: _, [], _, _ => by simp [toPys, PyData.eqvAll, dEqvs]
  | n, m, x :: xs, y :: ys, hd, he => by
    simp only [dOks, Bool.and_eq_true] at hd he
    simp only [toPys, PyData.eqvAll, dEqvs]
    rw [eqv_toPy n m x y hd.1 he.1, eqv_toPys n m xs ys hd.2 he.2]
end
mutual
theorem lay_toPy : ∀ (n : Nat) (d : D), dOk n d = true → (toPy d).canLay0 = true ∧ (toPy d).depth ≤ n + 1
  | n, d, h => by
    cases d with
    | lst xs =>
      cases n with
      | zero => simp [dOk] at h
      | succ n =>
        obtain ⟨h1, h2⟩ := lay_toPys n xs (by simpa [dOk] using h)
        exact ⟨by simpa [toPy, PyData.canLay0] using h1, by simp only [toPy, PyData.depth]; omega⟩
    | tup xs =>
      cases n with
      | zero => simp [dOk] at h
      | succ n =>
        obtain ⟨h1, h2⟩ := lay_toPys n xs (by simpa [dOk] using h)
        exact ⟨by simpa [toPy, PyData.canLay0] using h1, by simp only [toPy, PyData.depth]; omega⟩
    | _ => simp_all [toPy, PyData.canLay0, PyData.depth, dOk]
theorem lay_toPys : ∀ (n : Nat) (d : List D), dOks n d = true → PyData.canLayAll0 (toPys d) = true ∧ PyData.depthAll (toPys d) ≤ n + 1
  | n, [], h => by simp [toPys, PyData.canLayAll0, PyData.depthAll]
  | n, x :: xs, h => by
    simp only [dOks, Bool.and_eq_true] at h
    obtain ⟨a1, a2⟩ := lay_toPy n x h.1
    obtain ⟨b1, b2⟩ := lay_toPys n xs h.2
    exact ⟨by simp [toPys, PyData.canLayAll0, a1, b1], by simp only [toPys, PyData.depthAll]; omega⟩
end
theorem shaped_toPy {n : Nat} {d : D} (h : dOk n d = true) (hn : n ≤ 60) : SeqAt.shaped (toPy d) = true := by
  obtain ⟨h1, h2⟩ := lay_toPy n d h
  unfold SeqAt.shaped
  rw [h1, Bool.true_and]
  exact decide_eq_true (by omega)
section
variable {K : PySem.W.Frag} {ce : Ce} {L : Lx} {H : Hp} {A : Addr → Prop}
mutual
theorem Rep.dp {v : V} {d : D} (r : Rep K ce L H A v d) : ∀ n, dOk n d = true → Dp K H v (toPy d) := by
  intro n h
  cases r with
  | non => exact .non
  | bl b => exact .bl b
  | int i => exact .int i
  | str x => exact .str x
  | tup q r =>
    cases n with
    | zero => simp [dOk] at h
    | succ n => exact .tup q.sq (r.dp n (by simpa [dOk] using h))
  | lst q r =>
    cases n with
    | zero => simp [dOk] at h
    | succ n => exact .lst q.sq (r.dp n (by simpa [dOk] using h))
  | dic _ _ _ _ => simp [dOk] at h
  | err0 _ _ => simp [dOk] at h
  | errd _ _ _ _ _ _ => simp [dOk] at h
  | draw _ => simp [dOk] at h
  | scr _ => simp [dOk] at h
theorem Reps.dp {vs : List V} {ds : List D} (r : Reps K ce L H A vs ds) : ∀ n, dOks n ds = true → DpAll K H vs (toPys ds) := by
  intro n h
  cases r with
  | nil => exact .nil
  | cons q r =>
    simp only [dOks, Bool.and_eq_true] at h
    exact .cons (q.dp n h.1) (r.dp n h.2)
end
end
theorem RepB.dp {K : PySem.W.Frag} {ce : Ce} {g : Gm} {H : Hp} {v : V} {d : D} (r : RepB K ce g H v d) {n : Nat} (h : dOk n d = true) : Dp K H v (toPy d) := by
  rcases r with r | ⟨p, xs, l, e1, e2, _, h2, _, h3⟩ | ⟨p, ks', us, l2, e1, e2, _⟩
  · exact r.dp n h
  · subst e1 e2
    cases n with
    | zero => simp [dOk] at h
    | succ n => exact .lst (.of h2) (h3.dp n (by simpa [dOk] using h))
  · subst e2
    simp [dOk] at h
def dEq (d e : D) : Option D := if dOk 60 d = true ∧ dOk 60 e = true then some (.bl (dEqv d e)) else none
def dNe (d e : D) : Option D := if dOk 60 d = true ∧ dOk 60 e = true then some (.bl (!dEqv d e)) else none
def D.flat : D → Bool
  | .non => true
  | .bl _ => true
  | .int _ => true
  | .str _ => true
  | _ => false
/-- x in a list, a tuple; a text in a text is not served here -/
def dIn (d : D) : D → Option D
  | .lst l => if dOk 60 d = true ∧ dOk 60 (.lst l) = true then some (.bl (l.any fun z => dEqv z d)) else none
  | .tup l => if d.flat = true ∧ l.all D.flat = true then some (.bl (l.any fun z => dEqv z d)) else none
  | _ => none
def dNot : D → Option D
  | .bl b => some (.bl (!b))
  | _ => none

/-! ### they are borne -/
def BinS (X : Cx) (ce : Ce) (f : Value → Value → Sem Value) (h : D → D → Option D) : Prop :=
  ∃ r, OpR X f r ∧ ∀ (g : Gm) (σ : St) (ρ : List Sl) (dr : Dr) (H : Hp) (v u : V) (d e z : D) (Q : VK), SR X.K ce g H σ ρ dr → RepB X.K ce g H v d → RepB X.K ce g H u e → h d e = some z →
    (∀ H' w, Ext g.L H H' → SR X.K ce g H' σ ρ dr → Rep X.K ce g.L H' g.A w z → Q w H') → r v u H Q
def UnS (X : Cx) (ce : Ce) (f : Value → Sem Value) (h : D → Option D) : Prop :=
  ∃ r, UnR X f r ∧ ∀ (g : Gm) (σ : St) (ρ : List Sl) (dr : Dr) (H : Hp) (v : V) (d z : D) (Q : VK), SR X.K ce g H σ ρ dr → RepB X.K ce g H v d → h d = some z →
    (∀ H' w, Ext g.L H H' → SR X.K ce g H' σ ρ dr → Rep X.K ce g.L H' g.A w z → Q w H') → r v H Q
theorem OpR.or {X : Cx} {f : Value → Value → Sem Value} {r r' : R2} (h : OpR X f r) (h' : OpR X f r') : OpR X f (fun x y H Q => r x y H Q ∨ r' x y H Q) := by
  intro pins s σ H x y v u Q I rx ry q
  rcases q with q | q
  · exact h pins s σ H x y v u Q I rx ry q
  · exact h' pins s σ H x y v u Q I rx ry q
/-- what the rules ask of the place -/
structure Pc (X : Cx) : Prop where
  calm : X.calm = true
  hu : X.A.units + 65 < cLine
  nd : X.N.Nodup
section
variable {X : Cx} {ce : Ce}
theorem bs_add : BinS X ce (binaryOp .Add) dAdd := by
  refine ⟨_, OpR.or op_add (OpR.or op_cat (OpR.or op_catA op_add_str)), fun g σ ρ dr H v u d e z Q S rv ru hz q => ?_⟩
  unfold dAdd at hz
  split at hz
  · cases hz
    exact .inl ⟨_, _, rv.int, ru.int, q H _ .refl S (.int _)⟩
  · split at hz
    · rename_i hl
      cases hz
      obtain ⟨p, xs, rfl, z1, s1, r1⟩ := rv.lst
      obtain ⟨p2, ys, rfl, z2, s2, r2⟩ := ru.lst
      have e1 := r1.length
      have e2 := r2.length
      exact .inr (.inl ⟨p, p2, xs, ys, rfl, rfl, s1, s2, by omega, fun a ha => q _ _ (.new ha) (S.new ha) (S.lstN ha (by rw [List.length_append]; omega) (r1.append r2))⟩)
    · cases hz
  · split at hz
    · rename_i hl
      cases hz
      obtain ⟨p, xs, rfl, z1, s1, r1, w1⟩ := rv.tup
      obtain ⟨p2, ys, rfl, z2, s2, r2, w2⟩ := ru.tup
      have e1 := r1.length
      have e2 := r2.length
      refine .inr (.inr (.inl ⟨p, p2, xs, ys, rfl, rfl, s1, s2, by omega, fun e => ?_, fun _ e => ?_, fun _ _ a ha => ?_⟩))
      · subst e
        cases r1
        exact q _ _ .refl S w2
      · subst e
        cases r2
        rw [List.append_nil] at q
        exact q _ _ .refl S w1
      · exact q _ _ (.new ha) (S.new ha) (S.tupN ha (by rw [List.length_append]; omega) (r1.append r2))
    · cases hz
  · split at hz
    · rename_i hl
      cases hz
      exact .inr (.inr (.inr ⟨_, _, rv.str, ru.str, hl, q H _ .refl S (.str _)⟩))
    · cases hz
  · cases hz
theorem op_subB : OpR X (binaryOp .Sub) (fun x y H Q => ∃ i j, x = .bl i ∧ y = .bl j ∧ Q (.int (b2 i - b2 j)) H) := by
  intro pins s σ H x y v u Q I rx ry h
  obtain ⟨i, j, rfl, rfl, q⟩ := h
  cases rx
  cases ry
  exact sub_bool ⟨.int (b2 i - b2 j), H, I.tok _, ⟨_, rfl⟩, q⟩
theorem bs_sub : BinS X ce (binaryOp .Sub) dSub := by
  refine ⟨_, OpR.or op_sub op_subB, fun g σ ρ dr H v u d e z Q S rv ru hz q => ?_⟩
  unfold dSub at hz
  split at hz
  · cases hz
    exact .inl ⟨_, _, rv.int, ru.int, q H _ .refl S (.int _)⟩
  · cases hz
    exact .inr ⟨_, _, rv.bl, ru.bl, q H _ .refl S (.int _)⟩
  · cases hz
theorem rep_len {α : Type} (k : Nat) (a : List α) : (List.replicate k a).flatten.length = k * a.length := by
  induction k with
  | zero => simp
  | succ k ih => rw [List.replicate_succ, List.flatten_cons, List.length_append, ih, Nat.succ_mul, Nat.add_comm]
theorem Reps.rep {K : PySem.W.Frag} {L : Lx} {H : Hp} {A : Addr → Prop} {xs : List V} {l : List D} (r : Reps K ce L H A xs l) : ∀ k, Reps K ce L H A (List.replicate k xs).flatten (List.replicate k l).flatten
  | 0 => .nil
  | k + 1 => by
    rw [List.replicate_succ, List.replicate_succ, List.flatten_cons, List.flatten_cons]
    exact r.append (r.rep k)
theorem rep_le {α : Type} {k : Int} {a : List α} (h1 : k ≤ 1000) (h2 : a.length ≤ 1000) : k.toNat * a.length ≤ sizeLine := by
  have h3 : k.toNat * a.length ≤ 1000 * 1000 := Nat.mul_le_mul (by omega) h2
  rw [sizeLine_eq]
  omega
theorem bs_mul : BinS X ce (binaryOp .Mult) dMul := by
  refine ⟨_, OpR.or op_mulS (OpR.or op_rep op_repT), fun g σ ρ dr H v u d e z Q S rv ru hz q => ?_⟩
  unfold dMul at hz
  split at hz
  · split at hz
    · rename_i hb
      cases hz
      exact .inl ⟨_, _, rv.int, ru.int, hb, q H _ .refl S (.int _)⟩
    · cases hz
  · split at hz
    · rename_i hb
      cases hz
      obtain ⟨h1, h2, h3⟩ := hb
      obtain ⟨p, xs, rfl, z1, s1, r1⟩ := rv.lst
      have e1 := r1.length
      have e2 : xs.length ≤ 1000 := by omega
      exact .inr (.inl ⟨p, _, xs, rfl, ru.int, s1, by omega, by omega, by rw [Nat.mul_comm]; exact rep_le h2 e2, fun a ha => q _ _ (.new ha) (S.new ha) (S.lstN ha (by rw [rep_len]; exact rep_le h2 e2) (r1.rep _))⟩)
    · cases hz
  · split at hz
    · rename_i hb
      cases hz
      obtain ⟨h0, h1, h2, h3⟩ := hb
      obtain ⟨p, xs, rfl, z1, s1, r1, _⟩ := rv.tup
      have e1 := r1.length
      have e2 : xs.length ≤ 1000 := by omega
      have e3 : xs ≠ [] := fun e => h0 (by subst e; exact List.eq_nil_of_length_eq_zero e1.symm)
      exact .inr (.inr ⟨p, _, xs, rfl, ru.int, s1, e3, h1, h2, e2, fun a ha => q _ _ (.new ha) (S.new ha) (S.tupN ha (by rw [rep_len]; exact rep_le h2 e2) (r1.rep _))⟩)
    · cases hz
  · cases hz
theorem op_fdivA : OpR X (binaryOp .FloorDiv) (rI (fun _ j => j ≠ 0 ∧ j.natAbs.log2 < 9000) fun i j => .int (i.fdiv j)) :=
  opI fun i j _ _ _ _ _ hc q => PyProof.Rows.floordiv_int hc.1 q (.inl (PyProof.noPylong_of_log2 hc.2))
theorem bs_div : BinS X ce (binaryOp .FloorDiv) dDiv := by
  refine ⟨_, op_fdivA, fun g σ ρ dr H v u d e z Q S rv ru hz q => ?_⟩
  unfold dDiv at hz
  split at hz
  · split at hz
    · rename_i hb
      cases hz
      exact ⟨_, _, rv.int, ru.int, hb, q H _ .refl S (.int _)⟩
    · cases hz
  · cases hz
theorem bs_mod : BinS X ce (binaryOp .Mod) dMod := by
  refine ⟨_, op_modN, fun g σ ρ dr H v u d e z Q S rv ru hz q => ?_⟩
  unfold dMod at hz
  split at hz
  · split at hz
    · rename_i hb
      cases hz
      exact ⟨_, _, rv.int, ru.int, hb, q H _ .refl S (.int _)⟩
    · cases hz
  · cases hz
theorem bs_pow : BinS X ce (binaryOp .Pow) dPow := by
  refine ⟨_, op_pow, fun g σ ρ dr H v u d e z Q S rv ru hz q => ?_⟩
  unfold dPow at hz
  split at hz
  · split at hz
    · rename_i hb
      cases hz
      exact ⟨_, _, rv.int, ru.int, ⟨hb.1, by have := hb.2.1; omega, hb.2.2⟩, q H _ .refl S (.int _)⟩
    · cases hz
  · cases hz
theorem bs_lt : BinS X ce (compareOp .Lt) dLt := by
  refine ⟨_, op_lt, fun g σ ρ dr H v u d e z Q S rv ru hz q => ?_⟩
  unfold dLt at hz
  split at hz
  · cases hz
    exact ⟨_, _, rv.int, ru.int, q H _ .refl S (.bl _)⟩
  · cases hz
theorem bs_le : BinS X ce (compareOp .LtE) dLe := by
  refine ⟨_, op_le, fun g σ ρ dr H v u d e z Q S rv ru hz q => ?_⟩
  unfold dLe at hz
  split at hz
  · cases hz
    exact ⟨_, _, rv.int, ru.int, q H _ .refl S (.bl _)⟩
  · cases hz
theorem bs_gt : BinS X ce (compareOp .Gt) dGt := by
  refine ⟨_, op_gt, fun g σ ρ dr H v u d e z Q S rv ru hz q => ?_⟩
  unfold dGt at hz
  split at hz
  · cases hz
    exact ⟨_, _, rv.int, ru.int, q H _ .refl S (.bl _)⟩
  · cases hz
theorem bs_ge : BinS X ce (compareOp .GtE) dGe := by
  refine ⟨_, op_ge, fun g σ ρ dr H v u d e z Q S rv ru hz q => ?_⟩
  unfold dGe at hz
  split at hz
  · cases hz
    exact ⟨_, _, rv.int, ru.int, q H _ .refl S (.bl _)⟩
  · cases hz
theorem RepB.isNon {K : PySem.W.Frag} {g : Gm} {H : Hp} {v : V} {d : D} (r : RepB K ce g H v d) : decide (v = .non) = d.isNon := by
  cases d with
  | non => rw [r.non]; rfl
  | _ =>
    refine decide_eq_false fun e => ?_
    subst e
    rcases r with r | ⟨p, xs, l, e1, e2, _⟩ | ⟨p, xs, l, l2, e1, e2, _⟩
    · cases r
    · cases e1
    · cases e1
theorem bs_is : BinS X ce (compareOp .Is) dIs := by
  refine ⟨_, op_isN, fun g σ ρ dr H v u d e z Q S rv ru hz q => ?_⟩
  unfold dIs at hz
  split at hz
  · cases hz
    exact ⟨ru.non, by rw [rv.isNon]; exact q H _ .refl S (.bl _)⟩
  · cases hz
theorem bs_isnot : BinS X ce (compareOp .IsNot) dIsNot := by
  refine ⟨_, op_notN, fun g σ ρ dr H v u d e z Q S rv ru hz q => ?_⟩
  unfold dIsNot at hz
  split at hz
  · cases hz
    exact ⟨ru.non, by rw [rv.isNon]; exact q H _ .refl S (.bl _)⟩
  · cases hz
theorem us_neg : UnS X ce (unaryOp .USub) dNeg := by
  refine ⟨_, un_neg, fun g σ ρ dr H v d z Q S rv hz q => ?_⟩
  unfold dNeg at hz
  split at hz
  · cases hz
    exact ⟨_, rv.int, q H _ .refl S (.int _)⟩
  · cases hz
theorem bs_eq (P : Pc X) : BinS X ce (compareOp .Eq) dEq := by
  refine ⟨_, op_eqD (Nat.lt_of_succ_lt P.hu), fun g σ ρ dr H v u d e z Q S rv ru hz q => ?_⟩
  unfold dEq at hz
  split at hz
  · rename_i hb
    cases hz
    exact ⟨_, _, rv.dp hb.1, ru.dp hb.2, shaped_toPy hb.1 (Nat.le_refl _), shaped_toPy hb.2 (Nat.le_refl _), by rw [eqv_toPy _ _ _ _ hb.1 hb.2]; exact q H _ .refl S (.bl _)⟩
  · cases hz
theorem bs_ne (P : Pc X) : BinS X ce (compareOp .NotEq) dNe := by
  refine ⟨_, op_neD (Nat.lt_of_succ_lt P.hu), fun g σ ρ dr H v u d e z Q S rv ru hz q => ?_⟩
  unfold dNe at hz
  split at hz
  · rename_i hb
    cases hz
    exact ⟨_, _, rv.dp hb.1, ru.dp hb.2, shaped_toPy hb.1 (Nat.le_refl _), shaped_toPy hb.2 (Nat.le_refl _), by rw [eqv_toPy _ _ _ _ hb.1 hb.2]; exact q H _ .refl S (.bl _)⟩
  · cases hz
theorem any_toPy {d : D} {n : Nat} (hd : dOk n d = true) : ∀ {l : List D} {m : Nat}, dOks m l = true → ((toPys l).any fun z => PyData.eqv z (toPy d)) = l.any fun z => dEqv z d
  | [], _, _ => rfl
  | x :: xs, m, h => by
    simp only [dOks, Bool.and_eq_true] at h
    simp only [toPys, List.any_cons]
    rw [eqv_toPy _ _ _ _ h.1 hd, any_toPy hd h.2]
theorem flat_v {K : PySem.W.Frag} {L : Lx} {H : Hp} {A : Addr → Prop} {v : V} {d : D} (r : Rep K ce L H A v d) (f : d.flat = true) : flatV v = true := by
  cases r <;> first | rfl | exact absurd (show false = true from f) Bool.false_ne_true
theorem eqV_of {K : PySem.W.Frag} {L : Lx} {H : Hp} {A : Addr → Prop} {v u : V} {d e : D} (r : Rep K ce L H A v d) (f : d.flat = true) (q : Rep K ce L H A u e) (f' : e.flat = true) : eqV v u = dEqv d e := by
  cases r <;> cases q <;> first | rfl | exact absurd (show false = true from f) Bool.false_ne_true | exact absurd (show false = true from f') Bool.false_ne_true | (rename_i a b; cases a <;> cases b <;> rfl) | (rename_i a b; simp [eqV, dEqv, b2])
theorem inV_of {K : PySem.W.Frag} {L : Lx} {H : Hp} {A : Addr → Prop} {u : V} {e : D} (q : Rep K ce L H A u e) (f' : e.flat = true) : ∀ {xs : List V} {l : List D}, Reps K ce L H A xs l → l.all D.flat = true → xs.all flatV = true ∧ inV u xs = l.any fun z => dEqv z e
  | _, _, .nil, _ => ⟨rfl, rfl⟩
  | v :: xs, d :: l, .cons r t, h => by
    rw [List.all_cons, Bool.and_eq_true] at h
    obtain ⟨a, b⟩ := inV_of q f' t h.2
    refine ⟨by rw [List.all_cons, flat_v r h.1, a]; rfl, ?_⟩
    show (eqV v u || inV u xs) = _
    rw [List.any_cons, b, eqV_of r h.1 q f']
theorem rep_flat {K : PySem.W.Frag} {g : Gm} {H : Hp} {v : V} {d : D} (r : RepB K ce g H v d) (f : d.flat = true) : Rep K ce g.L H g.A v d := by
  rcases r with r | ⟨p, xs, l, e1, e2, _⟩ | ⟨p, xs, l, l2, e1, e2, _⟩
  · exact r
  · subst e2
    cases f
  · subst e2
    cases f
theorem bs_in (P : Pc X) : BinS X ce (compareOp .In) dIn := by
  refine ⟨_, OpR.or (op_inD P.hu) op_in_seq, fun g σ ρ dr H v u d e z Q S rv ru hz q => ?_⟩
  unfold dIn at hz
  split at hz
  · split at hz
    · rename_i hb
      cases hz
      refine .inl ⟨_, _, rv.dp hb.1, ru.dp hb.2, shaped_toPy hb.1 (Nat.le_refl _), shaped_toPy hb.2 (Nat.le_refl _), ?_⟩
      rw [any_toPy hb.1 (m := 59) (by have h := hb.2; rw [dOk] at h; exact h)]
      exact q H _ .refl S (.bl _)
    · cases hz
  · split at hz
    · rename_i hb
      cases hz
      obtain ⟨p, xs, rfl, z1, s1, r1, _⟩ := ru.tup
      have rv' := rep_flat rv hb.1
      obtain ⟨a, b⟩ := inV_of rv' hb.1 r1 hb.2
      exact .inr ⟨p, xs, rfl, .inr s1, flat_v rv' hb.1, a, by rw [b]; exact q H _ .refl S (.bl _)⟩
    · cases hz
  · cases hz
def dNotIn (d e : D) : Option D := (dIn d e).bind dNot
theorem bs_notin (P : Pc X) : BinS X ce (compareOp .NotIn) dNotIn := by
  refine ⟨_, OpR.or (op_notInD P.hu) op_notIn_seq, fun g σ ρ dr H v u d e z Q S rv ru hz q => ?_⟩
  unfold dNotIn dIn at hz
  split at hz
  · split at hz
    · rename_i hb
      simp only [Option.bind_some, dNot] at hz
      cases hz
      refine .inl ⟨_, _, rv.dp hb.1, ru.dp hb.2, shaped_toPy hb.1 (Nat.le_refl _), shaped_toPy hb.2 (Nat.le_refl _), ?_⟩
      rw [any_toPy hb.1 (m := 59) (by have h := hb.2; rw [dOk] at h; exact h)]
      exact q H _ .refl S (.bl _)
    · simp at hz
  · split at hz
    · rename_i hb
      simp only [Option.bind_some, dNot] at hz
      cases hz
      obtain ⟨p, xs, rfl, z1, s1, r1, _⟩ := ru.tup
      have rv' := rep_flat rv hb.1
      obtain ⟨a, b⟩ := inV_of rv' hb.1 r1 hb.2
      exact .inr ⟨p, xs, rfl, .inr s1, flat_v rv' hb.1, a, by rw [if_pos rfl, b]; exact q H _ .refl S (.bl _)⟩
    · simp at hz
  · simp at hz
end
end TP

set_option Elab.async false
set_option linter.all false
set_option maxRecDepth 100000
set_option maxHeartbeats 4000000
/-! TP, part 3: expressions. -/
namespace TP
open PySem L2

def lift {α : Type} (o : Option α) (dr : Dr) : Res α := match o with
  | some a => .ok a dr
  | none => .fail
def Res.nox {α : Type} : Res α → Res α
  | .exc _ _ => .fail
  | r => r
def sVar (i : Nat) : ES := fun ρ dr => match ρ[i]? with
  | some (.val d) => .ok d dr
  | _ => .fail
def sVarB (i : Nat) : ES := fun ρ dr => match ρ[i]? with
  | some (.val d) => .ok d dr
  | some (.own l) => .ok (.lst l) dr
  | some (.owd ks vs) => .ok (.dic ks vs) dr
  | _ => .fail
def sC (d : D) : ES := fun _ dr => .ok d dr
def sBin (h : D → D → Option D) (a b : ES) : ES := fun ρ dr => (a ρ dr).bind fun x dr1 => (b ρ dr1).bind fun y dr2 => lift (h x y) dr2
def sUn (h : D → Option D) (a : ES) : ES := fun ρ dr => (a ρ dr).bind fun x dr1 => lift (h x) dr1
def sChain (h h' : D → D → Option D) (a b c : ES) : ES := fun ρ dr => (a ρ dr).bind fun x dr1 => (b ρ dr1).bind fun y dr2 => match h x y with
  | some (.bl true) => (c ρ dr2).bind fun z dr3 => lift (h' y z) dr3
  | some (.bl false) => .ok (.bl false) dr2
  | _ => .fail
def sAnd (a b : ES) : ES := fun ρ dr => (a ρ dr).bind fun x dr1 => match x with
  | .bl true => b ρ dr1
  | .bl false => .ok (.bl false) dr1
  | _ => .fail
def sOr (a b : ES) : ES := fun ρ dr => (a ρ dr).bind fun x dr1 => match x with
  | .bl true => .ok (.bl true) dr1
  | .bl false => b ρ dr1
  | _ => .fail
def sNot (a : ES) : ES := sUn dNot a
def sT (e : ES) : BS := fun ρ dr => (e ρ dr).bind fun x dr1 => match x with
  | .bl b => .ok b dr1
  | _ => .fail
def sIf (c a b : ES) : ES := fun ρ dr => (sT c ρ dr).bind fun k dr1 => if k = true then a ρ dr1 else b ρ dr1
def sNil : LS := fun _ dr => .ok [] dr
def sCons (a : ES) (b : LS) : LS := fun ρ dr => (a ρ dr).bind fun x dr1 => (b ρ dr1).bind fun xs dr2 => .ok (x :: xs) dr2
def sStar (a : ES) (b : LS) : LS := fun ρ dr => (a ρ dr).bind fun x dr1 => match x with
  | .lst l => (b ρ dr1).bind fun xs dr2 => .ok (l ++ xs) dr2
  | .tup l => (b ρ dr1).bind fun xs dr2 => .ok (l ++ xs) dr2
  | _ => .fail
def sTup (a : LS) : ES := fun ρ dr => (a ρ dr).bind fun xs dr1 => if xs.length ≤ sizeLine then .ok (.tup xs) dr1 else .fail
/-- a new list -/
def sLst (a : LS) : LS := fun ρ dr => (a ρ dr).bind fun xs dr1 => if xs.length ≤ sizeLine then .ok xs dr1 else .fail
def sL (a : LS) : ES := fun ρ dr => (a ρ dr).bind fun xs dr1 => .ok (.lst xs) dr1
def sCall (h : List D → Option D) (a : LS) : ES := fun ρ dr => (a ρ dr).bind fun xs dr1 => lift (h xs) dr1

/-- the place of an expression: k calls one in another have room, an exception of a callee reaches W -/
structure Cn (X : Cx) (W : WX) (k : Nat) : Prop where
  pc : Pc X
  ps : ∀ σ, PassesAt (L2.CX X.prog X.w) X σ (WE W σ)
  rm : Room k X.A
  po : PassesOwn (model X.prog X.w) X.A X.env X.xe
abbrev W0 : WX := fun _ _ _ _ => False
theorem passW0 {X : Cx} (σ : St) : PassesAt (L2.CX X.prog X.w) X σ (WE W0 σ) := fun _ _ _ _ _ _ h => by
  obtain ⟨_, _, _, _, _, _, _, _, _, _, _, _, z⟩ := h
  exact z.elim
theorem Cn.blk {X : Cx} {W : WX} {k : Nat} (c : Cn X W k) {s : Shared} {H : Hp} {scope : Scope} {env : Env} {fp : List Addr} : Cn (X.blk s H scope env fp) W0 k :=
  ⟨⟨c.pc.calm, c.pc.hu, c.pc.nd⟩, passW0, c.rm, PassesOwn.never⟩

section
variable {X : Cx} {ce : Ce} {W : WX} {a b c : Expr} {ea eb ec : ES} {pos : Pos}
theorem yb_of (h : YE X ce W a ea) : YB X ce W a ea := pe_imp h fun σ H Q ⟨g, ρ, dr, S, P⟩ => ⟨g, ρ, dr, S, P.mono fun d dr1 H1 _ E1 S1 P1 v R => P1 v (.of R)⟩
theorem sl_at {K : PySem.W.Frag} {g : Gm} {H : Hp} {σ : St} {ρ : List Sl} {dr : Dr} (S : SR K ce g H σ ρ dr) {i : Nat} {s : Sl} (h : ρ[i]? = some s) (n : s ≠ .un) : ∃ v, σ[i]? = some (some v) ∧ SlR K ce g H (some v) s := by
  have q := S.sl i s h
  have hl : i < σ.length := by
    rw [← S.len]
    exact (List.getElem?_eq_some_iff.mp h).1
  have e : σ.getD i none = σ[i] := by simp [List.getD, hl]
  have e2 : σ[i]? = some (σ.getD i none) := by rw [e]; simp [hl]
  cases hv : σ.getD i none with
  | none =>
    rw [hv] at q
    cases s <;> first | exact absurd rfl n | exact q.elim
  | some v =>
    rw [hv] at q e2
    exact ⟨v, e2, q⟩
theorem ye_var (i : Nat) {x : Str} (h : PE X (.Name x pos) (tVar i)) : YE X ce W (.Name x pos) (sVar i) := by
  refine pe_imp h fun σ H Q ⟨g, ρ, dr, S, P⟩ => ?_
  unfold sVar at P
  split at P
  · rename_i d hd
    obtain ⟨v, e, r⟩ := sl_at S hd (by simp)
    exact ⟨v, e, Post.ok P S v r⟩
  · exact P.elim
theorem yb_var (i : Nat) {x : Str} (h : PE X (.Name x pos) (tVar i)) : YB X ce W (.Name x pos) (sVarB i) := by
  refine pe_imp h fun σ H Q ⟨g, ρ, dr, S, P⟩ => ?_
  unfold sVarB at P
  split at P
  · rename_i d hd
    obtain ⟨v, e, r⟩ := sl_at S hd (by simp)
    exact ⟨v, e, Post.ok P S v (.inl r)⟩
  · rename_i l hd
    obtain ⟨v, e, p, xs, e1, h1, h2, h3, h4, h5, h6⟩ := sl_at S hd (by simp)
    exact ⟨v, e, Post.ok P S v (.inr (.inl ⟨p, xs, l, e1, rfl, h4, h5, fun z => h2 z.dl, h6⟩))⟩
  · rename_i ks vs hd
    obtain ⟨v, e, p, xs, e1, h1, h2, h3, h4, h5, h6⟩ := sl_at S hd (by simp)
    exact ⟨v, e, Post.ok P S v (.inr (.inr ⟨p, ks, xs, vs, e1, rfl, h4, h5, fun z => h2 z.dl, h6⟩))⟩
  · exact P.elim
theorem ye_con {v : V} {d : D} (h : PE X a (tC v)) (r : ∀ L H A, Rep X.K ce L H A v d) : YE X ce W a (sC d) :=
  pe_imp h fun σ H Q ⟨g, ρ, dr, S, P⟩ => Post.ok P S v (r _ _ _)
theorem ye_int {i j} : YE X ce W (.Constant (.int i) j pos) (sC (.int i)) := ye_con pe_int fun _ _ _ => .int _
theorem ye_str {x j} : YE X ce W (.Constant (.str x) j pos) (sC (.str x)) := ye_con pe_str fun _ _ _ => .str _
theorem ye_bl {x j} : YE X ce W (.Constant (.bool x) j pos) (sC (.bl x)) := ye_con pe_bl fun _ _ _ => .bl _
theorem ye_non {j} : YE X ce W (.Constant .none j pos) (sC .non) := ye_con pe_non fun _ _ _ => .non
theorem ye_bin {op : Operator} {h : D → D → Option D} (hb : BinS X ce (binaryOp op) h) (ya : YB X ce W a ea) (yb : YB X ce W b eb) : YE X ce W (.BinOp a op b pos) (sBin h ea eb) := by
  obtain ⟨r, ho, hs⟩ := hb
  refine pe_imp (pe_op ho ya yb) fun σ H Q ⟨g, ρ, dr, S, P⟩ => ?_
  refine ⟨g, ρ, dr, S, (Post.bind P).mono fun d1 dr1 H1 _ E1 S1 P1 v1 R1 => ⟨g, ρ, dr1, S1, (Post.bind P1).mono fun d2 dr2 H2 _ E2 S2 P2 v2 R2 => ?_⟩⟩
  cases hz : h d1 d2 with
  | none => rw [hz] at P2; exact P2.elim
  | some z => rw [hz] at P2; exact hs g σ ρ dr2 H2 v1 v2 d1 d2 z Q S2 (R1.step S1 E2) R2 hz fun H' w E' S' R' => P2 H' E' S' w R'
theorem ye_un {op : UnaryOp} {h : D → Option D} (hb : UnS X ce (unaryOp op) h) (ya : YB X ce W a ea) : YE X ce W (.UnaryOp op a pos) (sUn h ea) := by
  obtain ⟨r, ho, hs⟩ := hb
  refine pe_imp (pe_un ho ya) fun σ H Q ⟨g, ρ, dr, S, P⟩ => ?_
  refine ⟨g, ρ, dr, S, (Post.bind P).mono fun d1 dr1 H1 _ E1 S1 P1 v1 R1 => ?_⟩
  cases hz : h d1 with
  | none => rw [hz] at P1; exact P1.elim
  | some z => rw [hz] at P1; exact hs g σ ρ dr1 H1 v1 d1 z Q S1 R1 hz fun H' w E' S' R' => P1 H' E' S' w R'
theorem cmp_imp {op : CmpOp} {h : D → D → Option D} {r : R2} (hs : ∀ (g : Gm) (σ : St) (ρ : List Sl) (dr : Dr) (H : Hp) (v u : V) (d e z : D) (Q : VK), SR X.K ce g H σ ρ dr → RepB X.K ce g H v d → RepB X.K ce g H u e → h d e = some z →
    (∀ H' w, Ext g.L H H' → SR X.K ce g H' σ ρ dr → Rep X.K ce g.L H' g.A w z → Q w H') → r v u H Q) (σ : St) (H : Hp) (Q : VK) (q : tE X.K ce W (sBin h ea eb) σ H Q) : tOp r (tB X.K ce W ea) (tB X.K ce W eb) σ H Q := by
  obtain ⟨g, ρ, dr, S, P⟩ := q
  refine ⟨g, ρ, dr, S, (Post.bind P).mono fun d1 dr1 H1 _ E1 S1 P1 v1 R1 => ⟨g, ρ, dr1, S1, (Post.bind P1).mono fun d2 dr2 H2 _ E2 S2 P2 v2 R2 => ?_⟩⟩
  cases hz : h d1 d2 with
  | none => rw [hz] at P2; exact P2.elim
  | some z => rw [hz] at P2; exact hs g σ ρ dr2 H2 v1 v2 d1 d2 z Q S2 (R1.step S1 E2) R2 hz fun H' w E' S' R' => P2 H' E' S' w R'
theorem ye_cmp {op : CmpOp} {h : D → D → Option D} (hb : BinS X ce (compareOp op) h) (ya : YB X ce W a ea) (yb : YB X ce W b eb) (hm : behindInMarks op b = false := by first | exact nobehind _ (by decide) (by decide) | rfl) : YE X ce W (.Compare a [op] [b] pos) (sBin h ea eb) := by
  obtain ⟨r, ho, hs⟩ := hb
  exact pe_imp (pe_cmpR ho ya yb hm) (cmp_imp (op := op) hs)
/-- a test, from what its value is -/
theorem test_of {e : ES} (σ : St) (H : Hp) (Q : Bool → Hp → Prop) (q : tT X.K ce W (sT e) σ H Q) : tTest (tE X.K ce W e) σ H Q := by
  obtain ⟨g, ρ, dr, S, P⟩ := q
  refine ⟨g, ρ, dr, S, (Post.bind P).mono fun d1 dr1 H1 _ E1 S1 P1 v1 R1 => ?_⟩
  split at P1
  · exact ⟨_, R1 |> RepB.of |> RepB.bl, Post.ok P1 S1⟩
  · exact P1.elim
theorem tTest_imp {t t' : TE} (i : ∀ σ H Q, t' σ H Q → t σ H Q) (σ : St) (H : Hp) (Q : Bool → Hp → Prop) (q : tTest t' σ H Q) : tTest t σ H Q := i _ _ _ q
theorem yt_cmp {op : CmpOp} {h : D → D → Option D} (hb : BinS X ce (compareOp op) h) (ya : YB X ce W a ea) (yb : YB X ce W b eb) (hm : behindInMarks op b = false := by first | exact nobehind _ (by decide) (by decide) | rfl) : YT X ce W (.Compare a [op] [b] pos) (sT (sBin h ea eb)) := by
  obtain ⟨r, ho, hs⟩ := hb
  exact pt_imp (pt_cmpR ho ya yb hm) fun σ H Q q => cmp_imp (op := op) hs σ H _ (test_of σ H Q q)
theorem chain_imp {h h' : D → D → Option D} {r r' : R2} (hs : ∀ (g : Gm) (σ : St) (ρ : List Sl) (dr : Dr) (H : Hp) (v u : V) (d e z : D) (Q : VK), SR X.K ce g H σ ρ dr → RepB X.K ce g H v d → RepB X.K ce g H u e → h d e = some z →
    (∀ H' w, Ext g.L H H' → SR X.K ce g H' σ ρ dr → Rep X.K ce g.L H' g.A w z → Q w H') → r v u H Q)
    (hs' : ∀ (g : Gm) (σ : St) (ρ : List Sl) (dr : Dr) (H : Hp) (v u : V) (d e z : D) (Q : VK), SR X.K ce g H σ ρ dr → RepB X.K ce g H v d → RepB X.K ce g H u e → h' d e = some z →
    (∀ H' w, Ext g.L H H' → SR X.K ce g H' σ ρ dr → Rep X.K ce g.L H' g.A w z → Q w H') → r' v u H Q) (σ : St) (H : Hp) (Q : VK) (q : tE X.K ce W (sChain h h' ea eb ec) σ H Q) : tChain r r' (tB X.K ce W ea) (tB X.K ce W eb) (tB X.K ce W ec) σ H Q := by
  obtain ⟨g, ρ, dr, S, P⟩ := q
  refine ⟨g, ρ, dr, S, (Post.bind P).mono fun d1 dr1 H1 _ E1 S1 P1 v1 R1 => ⟨g, ρ, dr1, S1, (Post.bind P1).mono fun d2 dr2 H2 _ E2 S2 P2 v2 R2 => ?_⟩⟩
  split at P2
  · rename_i hz
    refine hs g σ ρ dr2 H2 v1 v2 d1 d2 _ _ S2 (R1.step S1 E2) R2 hz fun H3 w E3 S3 R3 => ⟨true, R3 |> RepB.of |> RepB.bl, ?_⟩
    rw [if_pos rfl]
    refine ⟨g, ρ, dr2, S3, (Post.bind (P2.ext E3)).mono fun d3 dr3 H4 _ E4 S4 P4 v3 R4 => ?_⟩
    cases hz' : h' d2 d3 with
    | none => rw [hz'] at P4; exact P4.elim
    | some z => rw [hz'] at P4; exact hs' g σ ρ dr3 H4 v2 v3 d2 d3 z Q S4 ((R2.step S2 E3).step S3 E4) R4 hz' fun H' w E' S' R' => P4 H' E' S' w R'
  · rename_i hz
    refine hs g σ ρ dr2 H2 v1 v2 d1 d2 _ _ S2 (R1.step S1 E2) R2 hz fun H3 w E3 S3 R3 => ⟨false, R3 |> RepB.of |> RepB.bl, ?_⟩
    rw [if_neg Bool.false_ne_true]
    exact P2 H3 E3 S3 _ (.bl false)
  · exact P2.elim
theorem ye_chain {op op' : CmpOp} {h h' : D → D → Option D} (hb : BinS X ce (compareOp op) h) (hb' : BinS X ce (compareOp op') h') (ya : YB X ce W a ea) (yb : YB X ce W b eb) (yc : YB X ce W c ec)
    (hm : lastMarks [op, op'] [b, c] = false := by with_unfolding_all rfl) : YE X ce W (.Compare a [op, op'] [b, c] pos) (sChain h h' ea eb ec) := by
  obtain ⟨r, ho, hs⟩ := hb
  obtain ⟨r', ho', hs'⟩ := hb'
  exact pe_imp (pe_chain ho ho' ya yb yc hm) (chain_imp hs hs')
theorem yt_chain {op op' : CmpOp} {h h' : D → D → Option D} (hb : BinS X ce (compareOp op) h) (hb' : BinS X ce (compareOp op') h') (ya : YB X ce W a ea) (yb : YB X ce W b eb) (yc : YB X ce W c ec)
    (hm : lastMarks [op, op'] [b, c] = false := by with_unfolding_all rfl) : YT X ce W (.Compare a [op, op'] [b, c] pos) (sT (sChain h h' ea eb ec)) := by
  obtain ⟨r, ho, hs⟩ := hb
  obtain ⟨r', ho', hs'⟩ := hb'
  exact pt_imp (pt_chain ho ho' ya yb yc hm) fun σ H Q q => chain_imp hs hs' σ H _ (test_of σ H Q q)
/-- a test that is a value -/
theorem yt_val (ya : YE X ce W a ea) (he : ∀ whole, isTrue a X.env whole = (do let v ← whole; standAt a.pos; holding [v] (truthy v)) := by intro _; rfl) : YT X ce W a (sT ea) :=
  pt_imp (pt_val ya he) fun σ H Q q => test_of σ H Q q
theorem yt_not (ya : YT X ce W a (sT ea)) : YT X ce W (.UnaryOp .Not a pos) (sT (sNot ea)) := by
  refine pt_imp (pt_not ya) fun σ H Q ⟨g, ρ, dr, S, P⟩ => ?_
  refine ⟨g, ρ, dr, S, ?_⟩
  unfold sT sNot sUn at P
  unfold sT
  cases he : ea ρ dr with
  | ok d dr1 =>
    rw [he] at P
    cases d with
    | bl k => exact P
    | _ => exact P.elim
  | exc x dr1 => rw [he] at P; exact P
  | fail => rw [he] at P; exact P
end
end TP

set_option Elab.async false
set_option linter.all false
set_option maxRecDepth 100000
set_option maxHeartbeats 4000000
/-! TP, part 4: and, or, if, displays, calls of what is built in. -/
namespace TP
open PySem L2
abbrev YW (X : Cx) (ce : Ce) (W : WX) (ex : Expr) (e : BS) : Prop := PW X ex (tT X.K ce W e)
section
variable {X : Cx} {ce : Ce} {W : WX} {a b c : Expr} {ea eb ec : ES} {pos : Pos} {rest es : List Expr} {la : LS}
theorem ye_if (yc : YT X ce W c (sT ec)) (ya : YE X ce W a ea) (yb : YE X ce W b eb) : YE X ce W (.IfExp c a b pos) (sIf ec ea eb) := by
  refine pe_imp (pe_ifExp yc ya yb) fun σ H Q ⟨g, ρ, dr, S, P⟩ => ?_
  refine ⟨g, ρ, dr, S, (Post.bind P).mono fun k dr1 H1 _ E1 S1 P1 => ?_⟩
  cases k with
  | true => exact ⟨g, ρ, dr1, S1, P1⟩
  | false => exact ⟨g, ρ, dr1, S1, P1⟩
theorem ye_one {op} (ya : YE X ce W a ea) : YE X ce W (.BoolOp op [a] pos) ea := pe_one ya
theorem ye_and (ya : YE X ce W a ea) (yb : YE X ce W (.BoolOp .And (b :: rest) pos) eb) : YE X ce W (.BoolOp .And (a :: b :: rest) pos) (sAnd ea eb) := by
  refine pe_imp (pe_and ya yb) fun σ H Q ⟨g, ρ, dr, S, P⟩ => ?_
  refine ⟨g, ρ, dr, S, (Post.bind P).mono fun d1 dr1 H1 _ E1 S1 P1 v1 R1 => ?_⟩
  split at P1
  · exact ⟨_, R1 |> RepB.of |> RepB.bl, iteT (⟨g, ρ, dr1, S1, P1⟩)⟩
  · exact ⟨_, R1 |> RepB.of |> RepB.bl, iteF (P1 _ .refl S1 _ (.bl _))⟩
  · exact P1.elim
theorem ye_or (ya : YE X ce W a ea) (yb : YE X ce W (.BoolOp .Or (b :: rest) pos) eb) : YE X ce W (.BoolOp .Or (a :: b :: rest) pos) (sOr ea eb) := by
  refine pe_imp (pe_or ya yb) fun σ H Q ⟨g, ρ, dr, S, P⟩ => ?_
  refine ⟨g, ρ, dr, S, (Post.bind P).mono fun d1 dr1 H1 _ E1 S1 P1 v1 R1 => ?_⟩
  split at P1
  · exact ⟨_, R1 |> RepB.of |> RepB.bl, iteT (P1 _ .refl S1 _ (.bl _))⟩
  · exact ⟨_, R1 |> RepB.of |> RepB.bl, iteF (⟨g, ρ, dr1, S1, P1⟩)⟩
  · exact P1.elim
theorem ye_not (ya : YE X ce W a ea) : YE X ce W (.UnaryOp .Not a pos) (sNot ea) := by
  refine pe_imp (pe_not ya) fun σ H Q ⟨g, ρ, dr, S, P⟩ => ?_
  refine ⟨g, ρ, dr, S, (Post.bind P).mono fun d1 dr1 H1 _ E1 S1 P1 v1 R1 => ?_⟩
  cases d1 with
  | bl k => exact ⟨k, R1 |> RepB.of |> RepB.bl, P1 _ .refl S1 _ (.bl _)⟩
  | _ => exact P1.elim
theorem yw_and1 (ya : YT X ce W a (sT ea)) : YW X ce W (.BoolOp .And [a] pos) (sT ea) := pw_and1 ya
theorem yw_or1 (ya : YT X ce W a (sT ea)) : YW X ce W (.BoolOp .Or [a] pos) (sT ea) := pw_or1 ya
theorem yw_and (ya : YT X ce W a (sT ea)) (yb : YW X ce W (.BoolOp .And (b :: rest) pos) (sT eb)) : YW X ce W (.BoolOp .And (a :: b :: rest) pos) (sT (sAnd ea eb)) := by
  refine pw_imp (pw_and ya yb) fun σ H Q ⟨g, ρ, dr, S, P⟩ => ?_
  refine ⟨g, ρ, dr, S, ?_⟩
  unfold sT sAnd at P
  unfold sT
  cases he : ea ρ dr with
  | ok d dr1 =>
    rw [he] at P
    cases d with
    | bl k =>
      cases k with
      | true => exact fun H1 E1 S1 => iteT (⟨g, ρ, dr1, S1, Post.ext P E1⟩)
      | false => exact fun H1 E1 S1 => iteF (P H1 E1 S1)
    | _ => exact P.elim
  | exc x dr1 => rw [he] at P; exact P
  | fail => rw [he] at P; exact P
theorem yw_or (ya : YT X ce W a (sT ea)) (yb : YW X ce W (.BoolOp .Or (b :: rest) pos) (sT eb)) : YW X ce W (.BoolOp .Or (a :: b :: rest) pos) (sT (sOr ea eb)) := by
  refine pw_imp (pw_or ya yb) fun σ H Q ⟨g, ρ, dr, S, P⟩ => ?_
  refine ⟨g, ρ, dr, S, ?_⟩
  unfold sT sOr at P
  unfold sT
  cases he : ea ρ dr with
  | ok d dr1 =>
    rw [he] at P
    cases d with
    | bl k =>
      cases k with
      | true => exact fun H1 E1 S1 => iteT (P H1 E1 S1)
      | false => exact fun H1 E1 S1 => iteF (⟨g, ρ, dr1, S1, Post.ext P E1⟩)
    | _ => exact P.elim
  | exc x dr1 => rw [he] at P; exact P
  | fail => rw [he] at P; exact P

/-! ### lists of expressions, displays -/
theorem ya_nil : YA X ce W [] sNil := pa_imp pa_nil fun σ H Q ⟨g, ρ, dr, S, P⟩ => Post.ok P S [] .nil
theorem ya_cons (ya : YE X ce W a ea) (yb : YA X ce W es la) (hs : starEach (a :: es) X.env = (false, eval a X.env) :: starEach es X.env := by rfl) : YA X ce W (a :: es) (sCons ea la) := by
  refine pa_imp (pa_cons ya yb hs) fun σ H Q ⟨g, ρ, dr, S, P⟩ => ?_
  refine ⟨g, ρ, dr, S, (Post.bind P).mono fun d1 dr1 H1 _ E1 S1 P1 v1 R1 => ⟨g, ρ, dr1, S1, (Post.bind P1).mono fun ds dr2 H2 _ E2 S2 P2 vs R2 => ?_⟩⟩
  exact Post.ok P2 S2 _ (.cons (S1.rep E2 R1) R2)
theorem ya_star {p : Pos} (ya : YB X ce W a ea) (yb : YA X ce W es la) (hs : starEach (.Starred a p :: es) X.env = (true, eval a X.env) :: starEach es X.env := by rfl) : YA X ce W (.Starred a p :: es) (sStar ea la) := by
  refine pa_imp (StX.pa_star ya yb hs) fun σ H Q ⟨g, ρ, dr, S, P⟩ => ?_
  refine ⟨g, ρ, dr, S, (Post.bind P).mono fun d1 dr1 H1 _ E1 S1 P1 v1 R1 => ?_⟩
  split at P1
  · obtain ⟨p, xs, rfl, z1, s1, r1⟩ := R1.lst
    exact ⟨p, xs, rfl, .inr (.of s1), g, ρ, dr1, S1, (Post.bind P1).mono fun ds dr2 H2 _ E2 S2 P2 vs R2 => Post.ok P2 S2 _ ((S1.reps E2 r1).append R2)⟩
  · obtain ⟨p, xs, rfl, z1, s1, r1, _⟩ := R1.tup
    exact ⟨p, xs, rfl, .inl s1, g, ρ, dr1, S1, (Post.bind P1).mono fun ds dr2 H2 _ E2 S2 P2 vs R2 => Post.ok P2 S2 _ ((S1.reps E2 r1).append R2)⟩
  · exact P1.elim
theorem ye_tup {k} (ya : YA X ce W es la) : YE X ce W (.Tuple es k pos) (sTup la) := by
  refine pe_imp (pe_tup ya) fun σ H Q ⟨g, ρ, dr, S, P⟩ => ?_
  refine ⟨g, ρ, dr, S, (Post.bind P).mono fun ds dr1 H1 _ E1 S1 P1 vs R1 => ?_⟩
  split at P1
  · rename_i hz
    rw [← R1.length] at hz
    exact ⟨hz, fun p hp => P1 _ (.new hp) (S1.new hp) _ (S1.tupN hp hz R1)⟩
  · exact P1.elim
theorem SR.lstF {K : PySem.W.Frag} {g : Gm} {H : Hp} {σ : St} {ρ : List Sl} {dr : Dr} (S : SR K ce g H σ ρ dr) {p : Addr} {xs : List V} {l : List D} (h : H p = none) (r : Reps K ce g.L H g.A xs l) :
    Reps K ce g.L (upd H p (.lst xs)) (fun a => g.A a ∨ a = p) xs l := r.mono (fun b o _ e _ => by rw [upd_ne (ne_of_none e h)]; exact e) fun b hb => hb.elim .inl fun e => .inr (.of (by rw [e]; exact h))
theorem yf_lst (ya : YA X ce W es la) : YF X ce W (.List es pos) (sLst la) := by
  refine pe_imp (pe_lst ya) fun σ H Q ⟨g, ρ, dr, S, P⟩ => ?_
  refine ⟨g, ρ, dr, S, (Post.bind P).mono fun ds dr1 H1 _ E1 S1 P1 vs R1 => ?_⟩
  split at P1
  · rename_i hz
    rw [← R1.length] at hz
    refine ⟨hz, fun p hp => P1 _ (.new hp) (S1.new hp) p vs (E1.back hp fun z => S1.gk.not hp z.dl) (S1.gk.not hp) upd_same hz (S1.lstF hp R1)⟩
  · exact P1.elim
/-- a new list, as a datum -/
theorem ye_of_f (ya : YF X ce W a la) : YE X ce W a (sL la) := by
  refine pe_imp ya fun σ H Q ⟨g, ρ, dr, S, P⟩ => ?_
  refine ⟨g, ρ, dr, S, (Post.bind P).mono fun ds dr1 H1 _ E1 S1 P1 p xs hp hd h1 hz R1 => ?_⟩
  exact Post.ok P1 S1 _ (.lst ⟨hz, h1, S.out' hp hd⟩ (R1.mono (fun b o n e _ => e) fun b hb => .inl (.inl hb)))

/-! ### calls of what is built in -/
def tAB (K : PySem.W.Frag) (ce : Ce) (W : WX) (e : LS) : TA := fun σ H Q => ∃ (g : Gm) (ρ : List Sl) (dr : Dr), SR K ce g H σ ρ dr ∧
  Post K ce W g σ ρ H (e ρ dr) fun ds _ H' => ∀ vs, Paired (RepB K ce g H') vs ds → Q vs H'
abbrev YAB (X : Cx) (ce : Ce) (W : WX) (es : List Expr) (e : LS) : Prop := PA X es (tAB X.K ce W e)
theorem yab_nil : YAB X ce W [] sNil := pa_imp pa_nil fun σ H Q ⟨g, ρ, dr, S, P⟩ => Post.ok P S [] .nil
theorem paired_imp {α β : Type} {F G : α → β → Prop} : ∀ {l₁ : List α} {l₂ : List β}, Paired F l₁ l₂ → (∀ a b, F a b → G a b) → Paired G l₁ l₂
  | _, _, .nil, _ => .nil
  | _, _, .cons r t, f => .cons (f _ _ r) (paired_imp t f)
theorem yab_cons (ya : YB X ce W a ea) (yb : YAB X ce W es la) (hs : starEach (a :: es) X.env = (false, eval a X.env) :: starEach es X.env := by rfl) : YAB X ce W (a :: es) (sCons ea la) := by
  refine pa_imp (pa_cons ya yb hs) fun σ H Q ⟨g, ρ, dr, S, P⟩ => ?_
  refine ⟨g, ρ, dr, S, (Post.bind P).mono fun d1 dr1 H1 _ E1 S1 P1 v1 R1 => ⟨g, ρ, dr1, S1, (Post.bind P1).mono fun ds dr2 H2 _ E2 S2 P2 vs R2 => ?_⟩⟩
  exact Post.ok P2 S2 _ (.cons (R1.step S1 E2) R2)
/-- a call by values bears a function of data -/
def CalS (X : Cx) (ce : Ce) (f : Value) (h : List D → Option D) : Prop :=
  ∃ r, CallR X f r ∧ ∀ (g : Gm) (σ : St) (ρ : List Sl) (dr : Dr) (H : Hp) (vs : List V) (ds : List D) (z : D) (Q : VK), SR X.K ce g H σ ρ dr → Paired (RepB X.K ce g H) vs ds → h ds = some z →
    (∀ H' w, Ext g.L H H' → SR X.K ce g H' σ ρ dr → Rep X.K ce g.L H' g.A w z → Q w H') → r vs H Q
theorem call_imp {f : Value} {h : List D → Option D} {r : List V → Hp → VK → Prop} (hs : ∀ (g : Gm) (σ : St) (ρ : List Sl) (dr : Dr) (H : Hp) (vs : List V) (ds : List D) (z : D) (Q : VK), SR X.K ce g H σ ρ dr → Paired (RepB X.K ce g H) vs ds → h ds = some z →
    (∀ H' w, Ext g.L H H' → SR X.K ce g H' σ ρ dr → Rep X.K ce g.L H' g.A w z → Q w H') → r vs H Q) (σ : St) (H : Hp) (Q : VK) (q : tE X.K ce W (sCall h la) σ H Q) : tCB r (tAB X.K ce W la) σ H Q := by
  obtain ⟨g, ρ, dr, S, P⟩ := q
  refine ⟨g, ρ, dr, S, (Post.bind P).mono fun ds dr1 H1 _ E1 S1 P1 vs R1 => ?_⟩
  cases hz : h ds with
  | none => rw [hz] at P1; exact P1.elim
  | some z => rw [hz] at P1; exact hs g σ ρ dr1 H1 vs ds z Q S1 R1 hz fun H' w E' S' R' => P1 H' E' S' w R'
theorem ye_callB {id : String} {h : List D → Option D} {x : Str} {p : Pos} (hc : CalS X ce (.builtin id) h) (hm : X.mg x = none) (ya : YAB X ce W (a :: es) la) (hg : Gl X x := by rfl) (hv : bootBuiltins x = some (.builtin id) := by decide +kernel) (hn : x ≠ "__name__" := by decide)
    (hdb : (x == ("__debug__" : Str)) = false := by decide) (he : starEach (a :: es) X.env = (false, eval a X.env) :: starEach es X.env := by rfl) (hpl : (backTo pos (starEach es X.env)).any (·.1) = false := by rfl) : YE X ce W (.Call (.Name x p) (a :: es) [] pos) (sCall h la) := by
  obtain ⟨r, hr, hs⟩ := hc
  exact pe_imp (pe_callB hr hg hm hv ya hn hdb he hpl) (call_imp (f := .none) hs)
theorem ye_callTy {T : String} {h : List D → Option D} {x : Str} {p : Pos} (hc : CalS X ce (.type T) h) (hm : X.mg x = none) (ya : YAB X ce W (a :: es) la) (hg : Gl X x := by rfl) (hv : bootBuiltins x = some (.type T) := by decide +kernel) (hn : x ≠ "__name__" := by decide)
    (hdb : (x == ("__debug__" : Str)) = false := by decide) (he : starEach (a :: es) X.env = (false, eval a X.env) :: starEach es X.env := by rfl) (hpl : (backTo pos (starEach es X.env)).any (·.1) = false := by rfl) : YE X ce W (.Call (.Name x p) (a :: es) [] pos) (sCall h la) := by
  obtain ⟨r, hr, hs⟩ := hc
  exact pe_imp (pe_callTy hr hg hm hv ya hn hdb he hpl) (call_imp (f := .none) hs)
/-- a module's name for a built-in function -/
theorem ye_callM {id : String} {h : List D → Option D} {x : Str} {p : Pos} (hc : CalS X ce (.builtin id) h) (hm : X.mg x = some (.builtin id)) (ya : YAB X ce W (a :: es) la) (hg : Gl X x := by rfl)
    (hdb : (x == ("__debug__" : Str)) = false := by decide) (he : starEach (a :: es) X.env = (false, eval a X.env) :: starEach es X.env := by rfl) (hpl : (backTo pos (starEach es X.env)).any (·.1) = false := by rfl) : YE X ce W (.Call (.Name x p) (a :: es) [] pos) (sCall h la) := by
  obtain ⟨r, hr, hs⟩ := hc
  exact pe_imp (pe_callBfun hr hg hm ya hdb he hpl) (call_imp (f := .none) hs)
end

/-! ### the functions -/
def dLen : List D → Option D
  | [.lst l] => some (.int l.length)
  | [.tup l] => some (.int l.length)
  | [.scr l] => some (.int l.length)
  | _ => none
def dAbs : List D → Option D
  | [.int i] => some (.int (if i < 0 then -i else i))
  | _ => none
def dInt : List D → Option D
  | [.int i] => some (.int i)
  | [.bl b] => some (.int (if b then 1 else 0))
  | _ => none
def dGcd : List D → Option D
  | [.int i, .int j] => some (.int ((Nat.gcd i.natAbs j.natAbs : Nat) : Int))
  | _ => none
def asBl : D → Option Bool
  | .bl b => some b
  | _ => none
def asInt : D → Option Int
  | .int b => some b
  | _ => none
def dAll : List D → Option D
  | [.lst l] => (l.mapM asBl).map fun bs => .bl (bs.all id)
  | _ => none
def dAny : List D → Option D
  | [.lst l] => (l.mapM asBl).map fun bs => .bl (bs.any id)
  | _ => none
def dSum : List D → Option D
  | [.lst l] => (l.mapM asInt).map fun ns => .int ns.sum
  | _ => none
def maxL : List Int → Int
  | [] => 0
  | x :: xs => xs.foldl max x
def minL : List Int → Int
  | [] => 0
  | x :: xs => xs.foldl min x
def dMax : List D → Option D
  | [.lst l] => match l.mapM asInt with
    | some (x :: xs) => some (.int (maxL (x :: xs)))
    | _ => none
  | [.int i, .int j] => some (.int (if j > i then j else i))
  | _ => none
def dMin : List D → Option D
  | [.lst l] => match l.mapM asInt with
    | some (x :: xs) => some (.int (minL (x :: xs)))
    | _ => none
  | [.int i, .int j] => some (.int (if j < i then j else i))
  | _ => none
/-- list(x) -/
def dList : D → Option (List D)
  | .lst l => some l
  | .tup l => some l
  | _ => none
def dTuple : List D → Option D
  | [.lst l] => some (.tup l)
  | [.tup l] => some (.tup l)
  | _ => none
section
variable {K : PySem.W.Frag} {ce : Ce} {L : Lx} {H : Hp} {A : Addr → Prop}
theorem Reps.ints : ∀ {vs : List V} {ds : List D} {ns : List Int}, Reps K ce L H A vs ds → ds.mapM asInt = some ns → vs = ns.map V.int
  | _, _, _, .nil, h => by
    simp at h
    subst h
    rfl
  | _, _, _, .cons (d := d) (ds := ds) r t, h => by
    rw [List.mapM_cons] at h
    cases hd : asInt d with
    | none => rw [hd] at h; cases h
    | some i =>
      rw [hd] at h
      cases hs : ds.mapM asInt with
      | none => rw [hs] at h; cases h
      | some is =>
        rw [hs] at h
        cases h
        rw [t.ints hs]
        cases d <;> cases hd
        cases r
        rfl
theorem Reps.bls : ∀ {vs : List V} {ds : List D} {ns : List Bool}, Reps K ce L H A vs ds → ds.mapM asBl = some ns → vs = ns.map V.bl
  | _, _, _, .nil, h => by
    simp at h
    subst h
    rfl
  | _, _, _, .cons (d := d) (ds := ds) r t, h => by
    rw [List.mapM_cons] at h
    cases hd : asBl d with
    | none => rw [hd] at h; cases h
    | some i =>
      rw [hd] at h
      cases hs : ds.mapM asBl with
      | none => rw [hs] at h; cases h
      | some is =>
        rw [hs] at h
        cases h
        rw [t.bls hs]
        cases d <;> cases hd
        cases r
        rfl
end
theorem foldl_max : ∀ (xs : List Int) (x : Int), x ≤ xs.foldl max x ∧ (∀ y ∈ xs, y ≤ xs.foldl max x) ∧ (xs.foldl max x = x ∨ xs.foldl max x ∈ xs)
  | [], x => ⟨Int.le_refl _, by simp, .inl rfl⟩
  | y :: ys, x => by
    obtain ⟨h1, h2, h3⟩ := foldl_max ys (max x y)
    simp only [List.foldl_cons, List.mem_cons]
    refine ⟨by omega, ?_, ?_⟩
    · rintro z (rfl | hz)
      · omega
      · exact h2 z hz
    · rcases h3 with h3 | h3
      · rw [h3]
        by_cases h : x ≤ y
        · right; left; omega
        · left; omega
      · exact .inr (.inr h3)
theorem foldl_min : ∀ (xs : List Int) (x : Int), xs.foldl min x ≤ x ∧ (∀ y ∈ xs, xs.foldl min x ≤ y) ∧ (xs.foldl min x = x ∨ xs.foldl min x ∈ xs)
  | [], x => ⟨Int.le_refl _, by simp, .inl rfl⟩
  | y :: ys, x => by
    obtain ⟨h1, h2, h3⟩ := foldl_min ys (min x y)
    simp only [List.foldl_cons, List.mem_cons]
    refine ⟨by omega, ?_, ?_⟩
    · rintro z (rfl | hz)
      · omega
      · exact h2 z hz
    · rcases h3 with h3 | h3
      · rw [h3]
        by_cases h : y ≤ x
        · right; left; omega
        · left; omega
      · exact .inr (.inr h3)
theorem maxL_spec (x : Int) (xs : List Int) {m : Int} (hm : m ∈ x :: xs) (h : ∀ y ∈ x :: xs, y ≤ m) : m = maxL (x :: xs) := by
  obtain ⟨h1, h2, h3⟩ := foldl_max xs x
  show m = xs.foldl max x
  have a : xs.foldl max x ≤ m := by
    rcases h3 with h3 | h3
    · rw [h3]; exact h x List.mem_cons_self
    · exact h _ (List.mem_cons_of_mem _ h3)
  have b : m ≤ xs.foldl max x := by
    rcases List.mem_cons.mp hm with e | e
    · rw [e]; exact h1
    · exact h2 _ e
  omega
theorem minL_spec (x : Int) (xs : List Int) {m : Int} (hm : m ∈ x :: xs) (h : ∀ y ∈ x :: xs, m ≤ y) : m = minL (x :: xs) := by
  obtain ⟨h1, h2, h3⟩ := foldl_min xs x
  show m = xs.foldl min x
  have a : m ≤ xs.foldl min x := by
    rcases h3 with h3 | h3
    · rw [h3]; exact h x List.mem_cons_self
    · exact h _ (List.mem_cons_of_mem _ h3)
  have b : xs.foldl min x ≤ m := by
    rcases List.mem_cons.mp hm with e | e
    · rw [e]; exact h1
    · exact h2 _ e
  omega
section
variable {X : Cx} {ce : Ce}
theorem cs_len : CalS X ce (.builtin "len") dLen := by
  refine ⟨_, call_len_seq, fun g σ ρ dr H vs ds z Q S rs hz q => ?_⟩
  unfold dLen at hz
  split at hz
  · cases hz
    cases rs with
    | cons r t =>
      cases t
      obtain ⟨p, xs, rfl, z1, s1, r1⟩ := r.lst
      exact ⟨p, xs, rfl, .inl (.of s1), by rw [r1.length]; exact q H _ .refl S (.int _)⟩
  · cases hz
    cases rs with
    | cons r t =>
      cases t
      obtain ⟨p, xs, rfl, z1, s1, r1, _⟩ := r.tup
      exact ⟨p, xs, rfl, .inr s1, by rw [r1.length]; exact q H _ .refl S (.int _)⟩
  · cases hz
    cases rs with
    | cons r t =>
      cases t
      rcases r with r | ⟨p, xs, l, e1, e2, _⟩ | ⟨p, xs, l, l2, e1, e2, _⟩
      · cases r with
        | scr h => exact ⟨_, _, rfl, .inl h.sq, by rw [List.length_map]; exact q H _ .refl S (.int _)⟩
      · cases e2
      · cases e2
  · cases hz
theorem cs_abs : CalS X ce (.builtin "abs") dAbs := by
  refine ⟨_, call_abs, fun g σ ρ dr H vs ds z Q S rs hz q => ?_⟩
  unfold dAbs at hz
  split at hz
  · cases hz
    cases rs with
    | cons r t =>
      cases t
      exact ⟨_, by rw [r.int], q H _ .refl S (.int _)⟩
  · cases hz
theorem cs_int : CalS X ce (.type "int") dInt := by
  refine ⟨_, call_int1, fun g σ ρ dr H vs ds z Q S rs hz q => ?_⟩
  unfold dInt at hz
  split at hz
  · cases hz
    cases rs with
    | cons r t =>
      cases t
      exact .inl ⟨_, by rw [r.int], q H _ .refl S (.int _)⟩
  · cases hz
    cases rs with
    | cons r t =>
      cases t
      exact .inr ⟨_, by rw [r.bl], q H _ .refl S (.int _)⟩
  · cases hz
theorem cs_gcd : CalS X ce (.builtin "math.gcd") dGcd := by
  refine ⟨_, cr_gcd, fun g σ ρ dr H vs ds z Q S rs hz q => ?_⟩
  unfold dGcd at hz
  split at hz
  · cases hz
    cases rs with
    | cons r t =>
      cases t with
      | cons r2 t2 =>
        cases t2
        exact ⟨_, _, by rw [r.int, r2.int], q H _ .refl S (.int _)⟩
  · cases hz
theorem cs_all (P : Pc X) : CalS X ce (.builtin "all") dAll := by
  refine ⟨_, cr_all P.calm, fun g σ ρ dr H vs ds z Q S rs hz q => ?_⟩
  unfold dAll at hz
  split at hz
  · rename_i l
    cases rs with
    | cons r t =>
      cases t
      obtain ⟨p, xs, rfl, z1, s1, r1⟩ := r.lst
      cases hb : l.mapM asBl with
      | none => rw [hb] at hz; cases hz
      | some bs =>
        rw [hb] at hz
        cases hz
        rw [r1.bls hb] at s1
        exact ⟨p, bs, rfl, .of s1, q H _ .refl S (.bl _)⟩
  · cases hz
theorem cs_any (P : Pc X) : CalS X ce (.builtin "any") dAny := by
  refine ⟨_, cr_any P.calm, fun g σ ρ dr H vs ds z Q S rs hz q => ?_⟩
  unfold dAny at hz
  split at hz
  · rename_i l
    cases rs with
    | cons r t =>
      cases t
      obtain ⟨p, xs, rfl, z1, s1, r1⟩ := r.lst
      cases hb : l.mapM asBl with
      | none => rw [hb] at hz; cases hz
      | some bs =>
        rw [hb] at hz
        cases hz
        rw [r1.bls hb] at s1
        exact ⟨p, bs, rfl, .of s1, q H _ .refl S (.bl _)⟩
  · cases hz
theorem cs_sum (P : Pc X) : CalS X ce (.builtin "sum") dSum := by
  refine ⟨_, cr_sum P.calm, fun g σ ρ dr H vs ds z Q S rs hz q => ?_⟩
  unfold dSum at hz
  split at hz
  · rename_i l
    cases rs with
    | cons r t =>
      cases t
      obtain ⟨p, xs, rfl, z1, s1, r1⟩ := r.lst
      cases hb : l.mapM asInt with
      | none => rw [hb] at hz; cases hz
      | some bs =>
        rw [hb] at hz
        cases hz
        rw [r1.ints hb] at s1
        exact ⟨p, bs, rfl, .of s1, q H _ .refl S (.int _)⟩
  · cases hz
theorem cs_max (P : Pc X) : CalS X ce (.builtin "max") dMax := by
  refine ⟨_, CallR.or (cr_max P.calm) (call_max2 P.calm), fun g σ ρ dr H vs ds z Q S rs hz q => ?_⟩
  unfold dMax at hz
  split at hz
  · rename_i l
    cases rs with
    | cons r t =>
      cases t
      obtain ⟨p, xs, rfl, z1, s1, r1⟩ := r.lst
      split at hz
      · rename_i x ys hb
        cases hz
        rw [r1.ints hb] at s1
        refine .inl ⟨p, _, rfl, .of s1, by simp, fun m hm hle => ?_⟩
        rw [maxL_spec x ys hm hle]
        exact q H _ .refl S (.int _)
      · cases hz
  · cases hz
    cases rs with
    | cons r t =>
      cases t with
      | cons r2 t2 =>
        cases t2
        exact .inr ⟨_, _, by rw [r.int, r2.int], q H _ .refl S (.int _)⟩
  · cases hz
theorem cs_min (P : Pc X) : CalS X ce (.builtin "min") dMin := by
  refine ⟨_, CallR.or (cr_min P.calm) (call_min2 P.calm), fun g σ ρ dr H vs ds z Q S rs hz q => ?_⟩
  unfold dMin at hz
  split at hz
  · rename_i l
    cases rs with
    | cons r t =>
      cases t
      obtain ⟨p, xs, rfl, z1, s1, r1⟩ := r.lst
      split at hz
      · rename_i x ys hb
        cases hz
        rw [r1.ints hb] at s1
        refine .inl ⟨p, _, rfl, .of s1, by simp, fun m hm hle => ?_⟩
        rw [minL_spec x ys hm hle]
        exact q H _ .refl S (.int _)
      · cases hz
  · cases hz
    cases rs with
    | cons r t =>
      cases t with
      | cons r2 t2 =>
        cases t2
        exact .inr ⟨_, _, by rw [r.int, r2.int], q H _ .refl S (.int _)⟩
  · cases hz
theorem cs_tuple : CalS X ce (.type "tuple") dTuple := by
  refine ⟨_, call_tuple_of, fun g σ ρ dr H vs ds z Q S rs hz q => ?_⟩
  unfold dTuple at hz
  split at hz
  · cases hz
    cases rs with
    | cons r t =>
      cases t
      obtain ⟨p, xs, rfl, z1, s1, r1⟩ := r.lst
      exact ⟨p, xs, rfl, .inl ⟨.of s1, fun l hl => q _ _ (.new hl) (S.new hl) (S.tupN hl z1 r1)⟩⟩
  · cases hz
    cases rs with
    | cons r t =>
      cases t
      obtain ⟨p, xs, rfl, z1, s1, r1, w⟩ := r.tup
      exact ⟨p, xs, rfl, .inr ⟨s1, q _ _ .refl S w⟩⟩
  · cases hz
end
end TP

set_option Elab.async false
set_option linter.all false
set_option maxRecDepth 100000
set_option maxHeartbeats 4000000
/-! TP: enumerate and zip over lists and tuples, in any mixture. -/
namespace PySem
open Sem (wp)
theorem tp_meets_enum {v : Value} {o : Obj} {Hh : Heap → Prop} (B : Begins v o Hh) :
    Meets (Builtin.«enumerate.__new__» ⟨[.type "enumerate", v], []⟩) (fun _ R s => Hh s.heap ∧
      R (.ok (.ret (.ref (s.heap.push o).objs.size))) { s with heap := (s.heap.push o).push { cls := .type "enumerate", data := .fields #[.none, .bool false, .ref s.heap.objs.size, rawInt 0, .none, .none] } }) :=
  .of_wp fun prog w A R s hh => by
    obtain ⟨hp, gs, dd, tks, oss⟩ := s
    obtain ⟨st0, fin⟩ := hh
    have issub := sub_enumerate
    have begun : ∀ {A' : Around} {E : Value → Shared → Prop} {Q : Value → Shared → Prop}, Q (.ref hp.objs.size) ⟨hp.push o, gs, dd, tks, oss⟩ → wpAny (model prog w) A' (pyIter v) Q E ⟨hp, gs, dd, tks, oss⟩ :=
      fun q => B.iter prog w _ _ ⟨hp, gs, dd, tks, oss⟩ _ st0 q
    wp_walk using begun
    refine wpAny_stack_any fun st => wpAny_pure ?_
    split
    · rename_i cl _ _ _ _ _
      cases (cl == Value.type "enumerate") <;> (wp_walk using begun; exact ⟨_, rfl, fin⟩)
    · wp_walk using begun
      exact ⟨_, rfl, fin⟩
section
variable {prog : Program} {w : World} {A : Around} {E : Value → Shared → Prop} {s : Shared}
theorem tp_enum_begins {v : Value} {o : Obj} {Hh : Heap → Prop} {Q : Value → Shared → Prop} (B : Begins v o Hh) (h1 : Hh s.heap)
    (h : ∀ h', IsEnum h' (s.heap.objs.size + 1) s.heap.objs.size 0 .none → h'.get? s.heap.objs.size = some o → h'.objs.size = s.heap.objs.size + 2 →
      (∀ b o, s.heap.get? b = some o → h'.get? b = some o) → Q (.ref (s.heap.objs.size + 1)) { s with heap := h' }) :
    wpAny (model prog w) A (call (.type "enumerate") [v]) Q E s := by
  refine callType_new F.called_enumerate (by decide) (F.typeCall_enumerate_1 _) (F.newCall_enumerate_1 _) (fun obj => F.args_object_init_2 obj _) F.entry_enumerate_new (tp_meets_enum B) ⟨h1, ?_⟩
  have hz : (s.heap.push o).objs.size = s.heap.objs.size + 1 := Heap.size_push ..
  show _ ∧ _
  rw [hz]
  have he : IsEnum ((s.heap.push o).push { cls := .type "enumerate", data := .fields #[.none, .bool false, .ref s.heap.objs.size, rawInt 0, .none, .none] }) (s.heap.objs.size + 1) s.heap.objs.size 0 .none := by
    have q := Heap.get?_push_size (s.heap.push o) (o := { cls := .type "enumerate", data := .fields #[.none, .bool false, .ref s.heap.objs.size, rawInt 0, .none, .none] }) rfl
    rw [hz] at q
    exact q
  refine ⟨⟨_, he, rfl⟩, h _ he ?_ (by rw [Heap.size_push, hz]) fun b o x => ?_⟩
  · exact Heap.get?_push_of_some _ (Heap.get?_push_size _ B.free)
  · exact Heap.get?_push_of_some _ (Heap.get?_push_of_some _ x)
end
end PySem
namespace TP
open PySem L2
/-- a list or a tuple -/
inductive Kd where
  | l | t
def SqK (K : PySem.W.Frag) (H : Hp) : Kd → Addr → List V → Prop
  | .l, a, xs => SqL K H a xs
  | .t, a, xs => SqT K H a xs
def CellK (h : Heap) (it a : Addr) (i : Nat) : Kd → Prop
  | .l => h.IsListIter it a i
  | .t => h.IsTupleIter it a i
def SrcK (h : Heap) (a : Addr) (items : Array Value) : Kd → Prop
  | .l => h.IsList a items
  | .t => h.IsTuple a items
def itO (a : Addr) : Kd → Obj
  | .l => { cls := .type "list_iterator", data := .fields #[.ref a, .int 0 0] }
  | .t => { cls := .type "tuple_iterator", data := .fields #[.ref a, .int 0 0] }
theorem beginsK (a : Addr) (items : Array Value) : ∀ k, Begins (.ref a) (itO a k) fun h => SrcK h a items k
  | .l => begins_list a items
  | .t => begins_tuple a items
theorem drawsK {prog : Program} {w : World} {A : Around} (hh : A.handled = none) (it a : Addr) (hne : a ≠ it) (items : Array Value) : ∀ k,
    Draws prog w A it [it, a] items.size (fun i v => items[i]? = some v) (fun i h => CellK h it a i k ∧ SrcK h a items k)
  | .l => .list hh it a hne items
  | .t => .tuple hh it a hne items
theorem CellK.cls {h : Heap} {it a : Addr} {i : Nat} : ∀ {k : Kd}, CellK h it a i k → ∃ o, h.get? it = some o ∧ (o.cls = .type "list_iterator" ∨ o.cls = .type "tuple_iterator") ∧ ∀ v, o.data ≠ .cell v
  | .l, ⟨o, e, c, d⟩ => ⟨o, e, .inl c, fun v z => by rw [d] at z; cases z⟩
  | .t, ⟨o, e, c, d⟩ => ⟨o, e, .inr c, fun v z => by rw [d] at z; cases z⟩
theorem CellK.at {h h' : Heap} {it a : Addr} {i : Nat} : ∀ {k : Kd}, CellK h it a i k → (∀ o, h.get? it = some o → h'.get? it = some o) → CellK h' it a i k
  | .l, ⟨o, e, c, d⟩, k => ⟨o, k o e, c, d⟩
  | .t, ⟨o, e, c, d⟩, k => ⟨o, k o e, c, d⟩
theorem SrcK.cls {h : Heap} {a : Addr} {items : Array Value} : ∀ {k : Kd}, SrcK h a items k → ∃ o, h.get? a = some o ∧ (o.cls = .type "list" ∨ o.cls = .type "tuple")
  | .l, ⟨o, e, c, d⟩ => ⟨o, e, .inl c⟩
  | .t, ⟨o, e, c, d⟩ => ⟨o, e, .inr c⟩
theorem cell0 {h : Heap} {a p : Addr} : ∀ {k : Kd}, h.get? p = some (itO a k) → CellK h p a 0 k
  | .l, e => ⟨_, e, rfl, rfl⟩
  | .t, e => ⟨_, e, rfl, rfl⟩
theorem far {h : Heap} {it a : Addr} {i : Nat} {items : Array Value} {k k' : Kd} (c : CellK h it a i k) {b : Addr} (s : SrcK h b items k') : b ≠ it := fun e => by
  obtain ⟨o, e1, c1, _⟩ := c.cls
  obtain ⟨o2, e2, c2⟩ := s.cls
  rw [e, e1] at e2
  cases e2
  rcases c1 with c1 | c1 <;> rcases c2 with c2 | c2 <;> (rw [c1] at c2; simp at c2)
theorem src_of {X : Cx} {pins : List (Addr × Obj)} {σ : St} {H : Hp} {s : Shared} (I : L2.Inv X pins σ H s) {a : Addr} {xs : List V} : ∀ {k : Kd}, SqK X.K H k a xs → ∃ its : List Value, Vals xs its ∧ SrcK s.heap a its.toArray k
  | .l, h => let ⟨its, r, p, _⟩ := I.list h; ⟨its, r, p.isList⟩
  | .t, h => let ⟨its, r, p, _⟩ := I.tuple h; ⟨its, r, p⟩
theorem sq_inj {X : Cx} {pins : List (Addr × Obj)} {σ : St} {H : Hp} {s : Shared} (I : L2.Inv X pins σ H s) {a : Addr} {xs ys : List V} : ∀ {k : Kd}, SqK X.K H k a xs → SqK X.K H k a ys → xs = ys
  | .l, h, h' => I.list_inj h h'
  | .t, h, h' => I.tuple_inj h h'

/-! ### enumerate -/
def IteK (K : PySem.W.Frag) (k : Kd) (a : Addr) : It :=
  ⟨fun i H => ∃ (xs : List V) (x : V), SqK K H k a xs ∧ xs[i]? = some x, fun i H v H' => ∃ T x, v = .ref T ∧ H T = none ∧ H' = upd H T (.tup [.int (i : Nat), x]) ∧ ∀ xs, SqK K H k a xs → xs[i]? = some x, fun i H => ∃ xs : List V, SqK K H k a xs ∧ xs.length = i⟩
theorem turn_enumK {P : Program} {w : World} {K : PySem.W.Frag} {elts : List Expr} {kk : Nat} {tpos : Pos} (k : Kd) (a e it : Addr) :
    Turn P w K (.Tuple elts kk tpos) (IteK K k a) [e, it] e (fun i h => (∃ old, IsEnum h e it ((i : Nat) : Int) old) ∧ CellK h it a i k ∧ e ≠ it) where
  mem := by simp
  obj := fun i h st b hb => by
    obtain ⟨⟨old, he⟩, hc, _⟩ := st
    rcases (show b = e ∨ b = it by simpa using hb) with z | z
    · rw [z]; exact ⟨_, he, fun v q => nomatch q⟩
    · obtain ⟨o, ho, _, hd⟩ := hc.cls
      rw [z]; exact ⟨o, ho, hd⟩
  keep := fun i h h' st kp => let ⟨⟨old, he⟩, hi, hne⟩ := st; ⟨⟨old, kp e (by simp) _ he⟩, hi.at fun o q => kp it (by simp) o q, hne⟩
  item := by
    intro X hP hw hK hc i pins s σ H E I hf st hg
    subst hP hw hK
    obtain ⟨⟨old, he⟩, hit, hne⟩ := st
    obtain ⟨xs, x, hq, hx⟩ := hg
    obtain ⟨its, rv, sr⟩ := src_of I hq
    obtain ⟨u, hu, ru⟩ := rv.get hx
    have hai := far hit sr
    have hae : e ≠ a := fun z => by
      obtain ⟨o2, e2, c2⟩ := sr.cls
      have he' : s.heap.get? e = _ := he
      rw [z, e2] at he'
      cases he'
      rcases c2 with c2 | c2 <;> simp at c2
    have W := WalksT.enumFrom 0 (drawsK (prog := X.prog) (w := X.w) (A := X.A.in1) (I.ok.hd hc) it a hai its.toArray k) e hne (by simp [hne, hae]) (by simp)
    have hil : i < its.toArray.size := by
      have := (List.getElem?_eq_some_iff.mp hu).1
      simpa using this
    refine W.item i s _ _ hil ⟨⟨old, by rw [Int.zero_add]; exact he⟩, hit, sr⟩ fun T vals h' tk hP hT htup hm hk => ?_
    obtain ⟨t, y, hy, rfl⟩ := hP
    have ey : y = u := by
      have h1 : its.toArray[i]? = some y := hy
      simp only [List.getElem?_toArray] at h1
      rw [hu] at h1
      exact (Option.some.inj h1).symm
    subst ey
    refine ⟨_, rfl, W.go elts kk tpos i T _ _ _ hm fun h'' st'' hk'' => ?_⟩
    obtain ⟨⟨old', he'⟩, hc', sr'⟩ := st''
    have htup2 : h''.IsTuple T #[.int (0 + (i : Int)) t, y] := htup.at fun o q => hk'' T o (W.apart i T h' hm) q
    rw [Int.zero_add] at htup2
    have new : ObjOk X.prog X.w (upd H T (.tup [.int (i : Nat), x])) h'' T (.tup [.int (i : Nat), x]) :=
      ⟨by show 2 ≤ sizeLine; decide, [.int i t, y], .cons ⟨_, rfl⟩ (.cons ru .nil), htup2⟩
    have I1 : L2.Inv X pins σ (upd H T (.tup [.int (i : Nat), x])) { s with heap := h'', toks := tk } :=
      I.turnedNew (ch := [e, it]) (fun b ob hb q => hk'' b ob hb (hk b ob hb q)) hf hT new
    have hfr := I.hok.fresh hT
    refine ⟨.ref T, _, I1, rfl, ⟨T, x, rfl, hfr, rfl, fun ys hy => by rw [sq_inj I hy hq]; exact hx⟩, ⟨⟨old', ?_⟩, hc', hne⟩, fun b hb => ?_⟩
    · have e1 : ((i + 1 : Nat) : Int) = 0 + ((i + 1 : Nat) : Int) := by omega
      rw [e1]
      exact he'
    · obtain ⟨o, e2, _⟩ : ∃ o, s.heap.get? b = some o ∧ True := by
        rcases (show b = e ∨ b = it by simpa using hb) with z | z
        · rw [z]; exact ⟨_, he, trivial⟩
        · obtain ⟨o, ho, _, _⟩ := hit.cls
          rw [z]; exact ⟨o, ho, trivial⟩
      rw [upd_ne (Nat.ne_of_lt (Nat.lt_of_lt_of_le (Heap.lt_size e2) hT))]
      exact (hf b hb).1
  done := by
    intro X hP hw hK hc i pins s σ H E I hf st hg
    subst hP hw hK
    obtain ⟨⟨old, he⟩, hit, hne⟩ := st
    obtain ⟨xs, hq, hx⟩ := hg
    obtain ⟨its, rv, sr⟩ := src_of I hq
    have hai := far hit sr
    have hae : e ≠ a := fun z => by
      obtain ⟨o2, e2, c2⟩ := sr.cls
      have he' : s.heap.get? e = _ := he
      rw [z, e2] at he'
      cases he'
      rcases c2 with c2 | c2 <;> simp at c2
    have W := WalksT.enumFrom 0 (drawsK (prog := X.prog) (w := X.w) (A := X.A.in1) (I.ok.hd hc) it a hai its.toArray k) e hne (by simp [hne, hae]) (by simp)
    have hi : i = its.toArray.size := by rw [List.size_toArray, ← rv.length]; exact hx.symm
    refine W.done s _ _ ⟨⟨old, by rw [Int.zero_add, ← hi]; exact he⟩, by rw [← hi]; exact hit, sr⟩ fun h' tk hk => ⟨rfl, ?_⟩
    exact I.turnedL (ch := [e, it]) hk hf
  self := fun A i s Q E st h => let ⟨⟨_, he⟩, _⟩ := st; wpAny_pyIter_enum he h

theorem not_src {h : Heap} {a b : Addr} {items : Array Value} {k : Kd} {o : Obj} (e : h.get? b = some o) (c1 : o.cls ≠ .type "list") (c2 : o.cls ≠ .type "tuple") (s : SrcK h a items k) : b ≠ a := fun z => by
  obtain ⟨o2, e2, c⟩ := s.cls
  rw [z, e2] at e
  cases e
  exact c.elim c1 c2
theorem pi_enumK {X : Cx} {e : Expr} {ta : TA} {p pos tpos : Pos} {elts : List Expr} {kk : Nat} (k : Kd) (hg : Gl X "enumerate") (hm : X.mg "enumerate" = none) (ha : PA X [e] ta) (hs : starEach [e] X.env = [(false, eval e X.env)] := by rfl) :
    PI X (.Tuple elts kk tpos) (.Call (.Name "enumerate" p) [e] [] pos) (fun σ H R => ta σ H fun vs H1 => ∃ a xs, vs = [.ref a] ∧ SqK X.K H1 k a xs ∧ R (IteK X.K k a) H1) := by
  refine ⟨fun pins s σ H R I h => ?_⟩
  refine PyProof.Rows.Call_ (ld_blt I hg hm PyProof.Rows.boot_enumerate (PyProof.Rows.callWith_type1 (thn (ha.run pos pins s σ H _ I h) fun us s1 ⟨vs, H1, I1, r1, q1⟩ => ?_) hs rfl))
  obtain ⟨a, xs, ex, hq, q⟩ := q1
  subst ex
  cases r1 with
  | cons r rr =>
    cases rr
    cases r
    obtain ⟨its, rv, sr⟩ := src_of I1 hq
    refine tp_enum_begins (beginsK a its.toArray k) sr fun h' he hit hsz hk => wpAny_pyIter_enum he ?_
    have I2 : L2.Inv X pins σ H1 { s1 with heap := h' } := I1.kept (t' := s1.toks) hk
    refine ⟨s1.heap.objs.size + 1, [s1.heap.objs.size + 1, s1.heap.objs.size], _, _, H1, rfl, I2, turn_enumK k a (s1.heap.objs.size + 1) s1.heap.objs.size, ⟨⟨.none, he⟩, cell0 hit, Nat.succ_ne_self _⟩, fun b hb => ?_, q⟩
    have hle : s1.heap.objs.size ≤ b := by
      rcases (show b = s1.heap.objs.size + 1 ∨ b = s1.heap.objs.size by simpa using hb) with z | z
      · rw [z]; exact Nat.le_add_right _ _
      · rw [z]; exact Nat.le_refl _
    exact I1.fpOk hle (I1.hok.fresh hle)

/-! ### zip -/
def ItzK (K : PySem.W.Frag) (k1 k2 : Kd) (a b : Addr) : It :=
  ⟨fun i H => ∃ (xs ys : List V) (x y : V), SqK K H k1 a xs ∧ SqK K H k2 b ys ∧ xs[i]? = some x ∧ ys[i]? = some y,
    fun i H v H' => ∃ T x y, v = .ref T ∧ H T = none ∧ H' = upd H T (.tup [x, y]) ∧ (∀ xs, SqK K H k1 a xs → xs[i]? = some x) ∧ ∀ ys, SqK K H k2 b ys → ys[i]? = some y,
    fun i H => ∃ xs ys : List V, SqK K H k1 a xs ∧ SqK K H k2 b ys ∧ min xs.length ys.length = i⟩
theorem zmem {c z TI TO i1 i2 : Addr} (m : c ∈ [z, TO, i1, i2]) : c ∈ [z, TI, TO, i1, i2] := by
  simp only [List.mem_cons, List.not_mem_nil, or_false] at m ⊢
  rcases m with m | m | m | m <;> simp [m]
/-- the zip's own cells lie apart -/
structure ZCells (z TI TO i1 i2 : Addr) : Prop where
  a1 : TI ≠ z
  a2 : TO ≠ z
  a3 : TI ≠ TO
  a4 : TI ≠ i1
  a5 : TI ≠ i2
  a6 : z ≠ i1
  a7 : z ≠ i2
  a8 : TO ≠ i1
  a9 : TO ≠ i2
  b1 : i1 ≠ i2
theorem turn_zipK {P : Program} {w : World} {K : PySem.W.Frag} {elts : List Expr} {kk : Nat} {tpos : Pos} (k1 k2 : Kd) {a b z TI TO i1 i2 : Addr} (Z : ZCells z TI TO i1 i2) :
    Turn P w K (.Tuple elts kk tpos) (ItzK K k1 k2 a b) [z, TI, TO, i1, i2] z
      (fun i h => IsZip h z TI TO .none ∧ IsTupOf2 h TI (.ref i1) (.ref i2) ∧ (∃ x y, IsTupOf2 h TO x y) ∧ CellK h i1 a i k1 ∧ CellK h i2 b i k2 ∧ TO ≠ a ∧ TO ≠ b ∧ TI ≠ a ∧ TI ≠ b) where
  mem := by simp
  obj := fun i h st c hcm => by
    obtain ⟨hz, hTI, ⟨x, y, hTO⟩, h1, h2, _⟩ := st
    rcases (show c = z ∨ c = TI ∨ c = TO ∨ c = i1 ∨ c = i2 by simpa using hcm) with q | q | q | q | q
    · rw [q]; exact ⟨_, hz, fun v q => nomatch q⟩
    · rw [q]; exact ⟨_, hTI, fun v q => nomatch q⟩
    · rw [q]; exact ⟨_, hTO, fun v q => nomatch q⟩
    · obtain ⟨o, ho, _, hd⟩ := h1.cls
      rw [q]; exact ⟨o, ho, hd⟩
    · obtain ⟨o, ho, _, hd⟩ := h2.cls
      rw [q]; exact ⟨o, ho, hd⟩
  keep := fun i h h' st kp => by
    obtain ⟨hz, hTI, ⟨x, y, hTO⟩, h1, h2, n⟩ := st
    exact ⟨kp z (by simp) _ hz, kp TI (by simp) _ hTI, ⟨x, y, kp TO (by simp) _ hTO⟩, h1.at fun o q => kp i1 (by simp) o q, h2.at fun o q => kp i2 (by simp) o q, n⟩
  item := by
    intro X hP hw hK hc i pins s σ H E I hf st hg
    subst hP hw hK
    obtain ⟨hz, hTI, ⟨x0, y0, hTO⟩, h1, h2, n1, n2, n3, n4⟩ := st
    obtain ⟨xs, ys, x, y, hqx, hqy, hx, hy⟩ := hg
    obtain ⟨its, rv, sr⟩ := src_of I hqx
    obtain ⟨its2, rv2, sr2⟩ := src_of I hqy
    obtain ⟨u, hu, ru⟩ := rv.get hx
    obtain ⟨u2, hu2, ru2⟩ := rv2.get hy
    have za : z ≠ a := not_src hz (by simp) (by simp) sr
    have zb : z ≠ b := not_src hz (by simp) (by simp) sr2
    have S : ZipSep2 z TI TO i1 i2 [i1, a] [i2, b] :=
      { TIz := Z.a1, TOz := Z.a2, TITO := Z.a3, TIi1 := Z.a4, mem1 := by simp, zf1 := by simp [Z.a6, za], Tf1 := by simp [Z.a8, n1], TIi2 := Z.a5, mem2 := by simp, zf2 := by simp [Z.a7, zb], Tf2 := by simp [Z.a9, n2],
        sep1_2 := by simp [Z.b1, (far h1 sr2).symm], sep2_1 := by simp [Z.b1.symm, (far h2 sr).symm] }
    have W := WalksT.zipD2 S (drawsK (prog := X.prog) (w := X.w) (A := X.A.in1) (I.ok.hd hc) i1 a (far h1 sr) its.toArray k1) (drawsK (prog := X.prog) (w := X.w) (A := X.A.in1) (I.ok.hd hc) i2 b (far h2 sr2) its2.toArray k2)
    have l1 : i < its.toArray.size := by simpa using (List.getElem?_eq_some_iff.mp hu).1
    have l2 : i < its2.toArray.size := by simpa using (List.getElem?_eq_some_iff.mp hu2).1
    refine W.item i s _ _ (Nat.lt_min.mpr ⟨l1, l2⟩) ⟨hz, hTI, ⟨x0, y0, hTO⟩, ⟨h1, sr⟩, h2, sr2⟩ fun T vals h' tk hP hT htup hm hk => ?_
    obtain ⟨w1, w2, e1, e2, rfl⟩ := hP
    have ew1 : w1 = u := by
      have q : its.toArray[i]? = some w1 := e1
      simp only [List.getElem?_toArray] at q
      rw [hu] at q
      exact (Option.some.inj q).symm
    have ew2 : w2 = u2 := by
      have q : its2.toArray[i]? = some w2 := e2
      simp only [List.getElem?_toArray] at q
      rw [hu2] at q
      exact (Option.some.inj q).symm
    subst ew1 ew2
    refine ⟨_, rfl, W.go elts kk tpos i T _ _ _ hm fun h'' st'' hk'' => ?_⟩
    obtain ⟨g1, g2, g3, ⟨g4, _⟩, g5, _⟩ := st''
    have htup2 : h''.IsTuple T #[w1, w2] := htup.at fun o q => hk'' T o (W.apart i T h' hm) q
    have new : ObjOk X.prog X.w (upd H T (.tup [x, y])) h'' T (.tup [x, y]) :=
      ⟨by show 2 ≤ sizeLine; decide, [w1, w2], .cons ru (.cons ru2 .nil), htup2⟩
    have I1 : L2.Inv X pins σ (upd H T (.tup [x, y])) { s with heap := h'', toks := tk } :=
      I.turnedNew (ch := [z, TI, TO, i1, i2]) (fun c ob hb q => hk'' c ob (fun m => hb (zmem m)) (hk c ob (fun m => hb (zmem m)) q)) hf hT new
    have hfr := I.hok.fresh hT
    refine ⟨.ref T, _, I1, rfl, ⟨T, x, y, rfl, hfr, rfl, fun ys hy => by rw [sq_inj I hy hqx]; exact hx, fun l hl => by rw [sq_inj I hl hqy]; exact hy⟩, ⟨g1, g2, g3, g4, g5, n1, n2, n3, n4⟩, fun c hcm => ?_⟩
    obtain ⟨o, e3⟩ : ∃ o, s.heap.get? c = some o := by
      rcases (show c = z ∨ c = TI ∨ c = TO ∨ c = i1 ∨ c = i2 by simpa using hcm) with q | q | q | q | q
      · rw [q]; exact ⟨_, hz⟩
      · rw [q]; exact ⟨_, hTI⟩
      · rw [q]; exact ⟨_, hTO⟩
      · obtain ⟨o, ho, _⟩ := h1.cls
        rw [q]; exact ⟨o, ho⟩
      · obtain ⟨o, ho, _⟩ := h2.cls
        rw [q]; exact ⟨o, ho⟩
    rw [upd_ne (Nat.ne_of_lt (Nat.lt_of_lt_of_le (Heap.lt_size e3) hT))]
    exact (hf c hcm).1
  done := by
    intro X hP hw hK hc i pins s σ H E I hf st hg
    subst hP hw hK
    obtain ⟨hz, hTI, ⟨x0, y0, hTO⟩, h1, h2, n1, n2, n3, n4⟩ := st
    obtain ⟨xs, ys, hqx, hqy, hx⟩ := hg
    obtain ⟨its, rv, sr⟩ := src_of I hqx
    obtain ⟨its2, rv2, sr2⟩ := src_of I hqy
    have za : z ≠ a := not_src hz (by simp) (by simp) sr
    have zb : z ≠ b := not_src hz (by simp) (by simp) sr2
    have S : ZipSep2 z TI TO i1 i2 [i1, a] [i2, b] :=
      { TIz := Z.a1, TOz := Z.a2, TITO := Z.a3, TIi1 := Z.a4, mem1 := by simp, zf1 := by simp [Z.a6, za], Tf1 := by simp [Z.a8, n1], TIi2 := Z.a5, mem2 := by simp, zf2 := by simp [Z.a7, zb], Tf2 := by simp [Z.a9, n2],
        sep1_2 := by simp [Z.b1, (far h1 sr2).symm], sep2_1 := by simp [Z.b1.symm, (far h2 sr).symm] }
    have W := WalksT.zipD2 S (drawsK (prog := X.prog) (w := X.w) (A := X.A.in1) (I.ok.hd hc) i1 a (far h1 sr) its.toArray k1) (drawsK (prog := X.prog) (w := X.w) (A := X.A.in1) (I.ok.hd hc) i2 b (far h2 sr2) its2.toArray k2)
    have hi : i = min its.toArray.size its2.toArray.size := by rw [List.size_toArray, List.size_toArray, ← rv.length, ← rv2.length]; exact hx.symm
    refine W.done s _ _ ⟨hz, hTI, ⟨x0, y0, hTO⟩, ⟨by rw [← hi]; exact h1, sr⟩, by rw [← hi]; exact h2, sr2⟩ fun h' tk hk => ⟨rfl, ?_⟩
    exact I.turnedL (ch := [z, TI, TO, i1, i2]) (fun c ob hb q => hk c ob (fun m => hb (zmem m)) q) hf
  self := fun A i s Q E st h => wpAny_pyIter_zip st.1 h
theorem pi_zipK {X : Cx} {e e2 : Expr} {ta : TA} {p pos tpos : Pos} {elts : List Expr} {kk : Nat} (k1 k2 : Kd) (hg : Gl X "zip") (hm : X.mg "zip" = none) (ha : PA X [e, e2] ta)
    (hs : starEach [e, e2] X.env = (false, eval e X.env) :: starEach [e2] X.env := by rfl) (hpl : (backTo pos (starEach [e2] X.env)).any (·.1) = false := by rfl) :
    PI X (.Tuple elts kk tpos) (.Call (.Name "zip" p) [e, e2] [] pos) (fun σ H R => ta σ H fun vs H1 => ∃ a b xs ys, vs = [.ref a, .ref b] ∧ SqK X.K H1 k1 a xs ∧ SqK X.K H1 k2 b ys ∧ R (ItzK X.K k1 k2 a b) H1) := by
  refine ⟨fun pins s σ H R I h => ?_⟩
  refine PyProof.Rows.Call_ (ld_blt I hg hm PyProof.Rows.boot_zip (PyProof.Rows.callWith_type1 (thn (ha.run pos pins s σ H _ I h) fun us s1 ⟨vs, H1, I1, r1, q1⟩ => ?_) hs hpl))
  obtain ⟨a, b, xs, ys, ex, hqx, hqy, q⟩ := q1
  subst ex
  cases r1 with
  | cons r rr =>
    cases rr with
    | cons r' rr =>
      cases rr
      cases r
      cases r'
      obtain ⟨its, rv, sr⟩ := src_of I1 hqx
      obtain ⟨its2, rv2, sr2⟩ := src_of I1 hqy
      obtain ⟨o1, x1, _⟩ := sr.cls
      obtain ⟨o2, x2, _⟩ := sr2.cls
      have y1 := Heap.lt_size x1
      have y2 := Heap.lt_size x2
      refine zip_begins2 (beginsK a its.toArray k1) (beginsK b its2.toArray k2) sr sr2 fun h' hz hTI hTO hi1 hi2 hsz hk => wpAny_pyIter_zip hz ?_
      have I2 : L2.Inv X pins σ H1 { s1 with heap := h' } := I1.kept (t' := s1.toks) hk
      have fresh : ∀ c, s1.heap.objs.size ≤ c → FpOk X pins H1 c := fun c hle => I1.fpOk hle (I1.hok.fresh hle)
      have ne : ∀ {m n : Nat}, m ≠ n → (s1.heap.objs.size + m : Nat) ≠ s1.heap.objs.size + n := fun h e => h (Nat.add_left_cancel e)
      have hi1' : h'.get? (s1.heap.objs.size + 0) = some (itO a k1) := hi1
      refine ⟨s1.heap.objs.size + 4, [s1.heap.objs.size + 4, s1.heap.objs.size + 2, s1.heap.objs.size + 3, s1.heap.objs.size + 0, s1.heap.objs.size + 1], _, _, H1, rfl, I2, turn_zipK k1 k2 (a := a) (b := b)
        ⟨ne (by decide), ne (by decide), ne (by decide), ne (by decide), ne (by decide), ne (by decide), ne (by decide), ne (by decide), ne (by decide), ne (by decide)⟩,
        ⟨hz, hTI, ⟨.none, .none, hTO⟩, cell0 hi1', cell0 hi2, (Nat.ne_of_lt (Nat.lt_add_right 3 y1)).symm, (Nat.ne_of_lt (Nat.lt_add_right 3 y2)).symm, (Nat.ne_of_lt (Nat.lt_add_right 2 y1)).symm, (Nat.ne_of_lt (Nat.lt_add_right 2 y2)).symm⟩, fun c hcm => fresh c ?_, q⟩
      simp only [List.mem_cons, List.not_mem_nil, or_false] at hcm
      rcases hcm with z | z | z | z | z
      all_goals (rw [z]; exact Nat.le_add_right _ _)
end TP

set_option Elab.async false
set_option linter.all false
set_option maxRecDepth 100000
set_option maxHeartbeats 4000000
/-! TP, part 5: places, slices, what is walked, list comprehensions. -/
namespace TP
open PySem L2

/-! ### a[i], a[i:j] -/
def valD : List Key → List D → Key → Option D
  | k :: ks, v :: vs, x => if k = x then some v else valD ks vs x
  | _, _, _ => none
def dKey : D → Option Key
  | .int i => some (.inl i)
  | .str x => some (.inr x)
  | _ => none
def dIx : D → D → Option D
  | .lst l, .int i => atI l i
  | .tup l, .int i => atI l i
  | _, _ => none
def dGet : D → D → Option D
  | .dic ks vs, k => (dKey k).bind fun x => valD ks vs x
  | _, _ => none
def cutD (xs : List D) (lo hi : Option Int) : List D := (xs.drop (HT.sIx xs.length 0 lo)).take (HT.sIx xs.length xs.length hi - HT.sIx xs.length 0 lo)
def dCut (x : D) (lo hi : Option Int) : Option D := match x with
  | .lst l => some (.lst (cutD l lo hi))
  | .tup l => some (.tup (cutD l lo hi))
  | _ => none
abbrev OS := List Sl → Dr → Res (Option Int)
def sNoP : OS := fun _ dr => .ok none dr
def sP (e : ES) : OS := fun ρ dr => (e ρ dr).bind fun x dr1 => match x with
  | .int i => .ok (some i) dr1
  | _ => .fail
def sCut (e : ES) (lo hi : OS) : ES := fun ρ dr => (e ρ dr).bind fun x dr1 => (lo ρ dr1).bind fun l dr2 => (hi ρ dr2).bind fun u dr3 => lift (dCut x l u) dr3
def tP (K : PySem.W.Frag) (ce : Ce) (W : WX) (e : OS) : TO := fun σ H Q => ∃ (g : Gm) (ρ : List Sl) (dr : Dr), SR K ce g H σ ρ dr ∧ Post K ce W g σ ρ H (e ρ dr) fun o _ H' => Q o H'
abbrev YP (X : Cx) (ce : Ce) (W : WX) (ex : Option Expr) (e : OS) : Prop := PO X ex (tP X.K ce W e)
section
variable {X : Cx} {ce : Ce} {W : WX} {a b c : Expr} {ea eb ec : ES} {pos p2 : Pos}
theorem po_imp {e : Option Expr} {t t' : TO} (h : PO X e t) (i : ∀ σ H Q, t' σ H Q → t σ H Q) : PO X e t' := ⟨fun pins s σ H Q I q => h.run pins s σ H Q I (i σ H Q q)⟩
theorem yp_none : YP X ce W none sNoP := po_imp po_none fun σ H Q ⟨g, ρ, dr, S, P⟩ => Post.ok P S
theorem yp_some (ya : YE X ce W a ea) : YP X ce W (some a) (sP ea) := by
  refine po_imp (po_some ya) fun σ H Q ⟨g, ρ, dr, S, P⟩ => ?_
  refine ⟨g, ρ, dr, S, (Post.bind P).mono fun d1 dr1 H1 _ E1 S1 P1 v1 R1 => ?_⟩
  split at P1
  · exact ⟨_, R1 |> RepB.of |> RepB.int, Post.ok P1 S1⟩
  · exact P1.elim
theorem pe_or2 {e : Expr} {t t' : TE} (h : PE X e t) (h' : PE X e t') : PE X e (fun σ H Q => t σ H Q ∨ t' σ H Q) := ⟨fun pins s σ H Q I q => q.elim (h.run pins s σ H Q I) (h'.run pins s σ H Q I)⟩
theorem valV_rep {K : PySem.W.Frag} {L : Lx} {H : Hp} {A : Addr → Prop} : ∀ {ks : List Key} {us : List V} {vs : List D} {k : Key} {d : D}, ks.length = us.length → Reps K ce L H A us vs → valD ks vs k = some d → ∃ v, valV (ks.zip us) k = some v ∧ Rep K ce L H A v d
  | [], _, _, k, d, _, _, h => by simp [valD] at h
  | k0 :: ks, [], _, k, d, hl, _, h => by simp at hl
  | k0 :: ks, u :: us, v :: vs, k, d, hl, .cons r t, h => by
    unfold valD at h
    unfold valV
    simp only [List.zip_cons_cons]
    by_cases e : k0 = k
    · rw [if_pos e] at h
      cases h
      exact ⟨u, by simp [List.find?_cons, e], r⟩
    · rw [if_neg e] at h
      obtain ⟨w, h1, h2⟩ := valV_rep (by simpa using hl) t h
      refine ⟨w, ?_, h2⟩
      unfold valV at h1
      simp only [List.find?_cons, decide_eq_false e]
      exact h1
theorem atI_rep {K : PySem.W.Frag} {L : Lx} {H : Hp} {A : Addr → Prop} {xs : List V} {l : List D} {i : Int} {d : D} (r : Reps K ce L H A xs l) (h : atI l i = some d) : ∃ v, atI xs i = some v ∧ Rep K ce L H A v d := by
  unfold atI at h ⊢
  rw [r.length]
  cases e : ixN l.length i with
  | none => rw [e] at h; cases h
  | some j =>
    rw [e] at h
    exact r.get h
theorem ye_ix (ya : YB X ce W a ea) (yb : YB X ce W b eb) (hs : PlainIx b := by exact fun _ _ => rfl) : YE X ce W (.Subscript a b pos) (sBin dIx ea eb) := by
  refine pe_imp (pe_ix ix_seq ya yb hs) fun σ H Q ⟨g, ρ, dr, S, P⟩ => ?_
  refine ⟨g, ρ, dr, S, (Post.bind P).mono fun d1 dr1 H1 _ E1 S1 P1 v1 R1 => ⟨g, ρ, dr1, S1, (Post.bind P1).mono fun d2 dr2 H2 _ E2 S2 P2 v2 R2 => ?_⟩⟩
  cases hz : dIx d1 d2 with
  | none => rw [hz] at P2; exact P2.elim
  | some z =>
    rw [hz] at P2
    have R1' := R1.step S1 E2
    unfold dIx at hz
    split at hz
    · obtain ⟨p, xs, rfl, z1, s1, r1⟩ := R1'.lst
      obtain ⟨v, h1, h2⟩ := atI_rep r1 hz
      exact .inl ⟨p, xs, _, v, rfl, R2.int, .of s1, h1, Post.ok P2 S2 v h2⟩
    · obtain ⟨p, xs, rfl, z1, s1, r1, _⟩ := R1'.tup
      obtain ⟨v, h1, h2⟩ := atI_rep r1 hz
      exact .inr (.inl ⟨p, xs, _, v, rfl, R2.int, s1, h1, Post.ok P2 S2 v h2⟩)
    · cases hz
theorem dKey_v {K : PySem.W.Frag} {g : Gm} {H : Hp} {v : V} {d : D} {k : Key} (h : dKey d = some k) (r : RepB K ce g H v d) : v = kV k := by
  unfold dKey at h
  split at h
  · cases h; exact r.int
  · cases h; exact r.str
  · cases h
theorem ye_get (P0 : Pc X) (ya : YB X ce W a ea) (yb : YB X ce W b eb) (hs : NoSl b := by exact fun _ _ => rfl) : YE X ce W (.Subscript a b pos) (sBin dGet ea eb) := by
  refine pe_imp (pe_dget (by have := P0.hu; omega) ya yb hs) fun σ H Q ⟨g, ρ, dr, S, P⟩ => ?_
  refine ⟨g, ρ, dr, S, (Post.bind P).mono fun d1 dr1 H1 _ E1 S1 P1 v1 R1 => ⟨g, ρ, dr1, S1, (Post.bind P1).mono fun d2 dr2 H2 _ E2 S2 P2 v2 R2 => ?_⟩⟩
  cases hz : dGet d1 d2 with
  | none => rw [hz] at P2; exact P2.elim
  | some z =>
    rw [hz] at P2
    have R1' := R1.step S1 E2
    unfold dGet at hz
    split at hz
    · obtain ⟨p, us, rfl, z1, s1, r1⟩ := R1'.dic
      cases hk : dKey d2 with
      | none => rw [hk] at hz; cases hz
      | some k =>
        rw [hk] at hz
        obtain ⟨v, h1, h2⟩ := valV_rep z1 r1 hz
        refine ⟨p, v, rfl, ?_, Post.ok P2 S2 v h2⟩
        refine .inl ⟨_, k, s1, dKey_v hk R2, ?_⟩
        rw [h1]
    · cases hz
theorem cutD_reps {K : PySem.W.Frag} {L : Lx} {H : Hp} {A : Addr → Prop} {xs : List V} {l : List D} (r : Reps K ce L H A xs l) (lo hi : Option Int) : Reps K ce L H A (cutV xs lo hi) (cutD l lo hi) := by
  unfold cutV cutD
  rw [r.length]
  exact (r.drop _).take _
theorem cut_whole {xs : List D} {lo hi : Option Int} (h : HT.sIx xs.length 0 lo = 0 ∧ HT.sIx xs.length xs.length hi = xs.length) : cutD xs lo hi = xs := by
  unfold cutD
  rw [h.1, h.2]
  simp
theorem ye_cut {lo hi : Option Expr} {el eh : OS} (ya : YB X ce W a ea) (yl : YP X ce W lo el) (yh : YP X ce W hi eh) : YE X ce W (.Subscript a (.Slice lo hi none p2) pos) (sCut ea el eh) := by
  refine pe_imp (pe_slice (SlR.or sl_list sl_tupA) ya yl yh) fun σ H Q ⟨g, ρ, dr, S, P⟩ => ?_
  refine ⟨g, ρ, dr, S, (Post.bind P).mono fun d1 dr1 H1 _ E1 S1 P1 v1 R1 => ⟨g, ρ, dr1, S1, (Post.bind P1).mono fun o1 dr2 H2 _ E2 S2 P2 => ⟨g, ρ, dr2, S2, (Post.bind P2).mono fun o2 dr3 H3 _ E3 S3 P3 => ?_⟩⟩⟩
  have R1' := (R1.step S1 E2).step S2 E3
  cases hz : dCut d1 o1 o2 with
  | none => rw [hz] at P3; exact P3.elim
  | some z =>
    rw [hz] at P3
    unfold dCut at hz
    split at hz
    · cases hz
      obtain ⟨p, xs, rfl, z1, s1, r1⟩ := R1'.lst
      exact .inl ⟨p, xs, rfl, .of s1, fun q hq => P3 _ (.new hq) (S3.new hq) _ (S3.lstN hq (Nat.le_trans (cutV_length _ _ _) z1) (cutD_reps r1 _ _))⟩
    · cases hz
      obtain ⟨p, xs, rfl, z1, s1, r1, w⟩ := R1'.tup
      refine .inr ⟨p, xs, rfl, s1, fun hw => ?_, fun _ q hq => ?_⟩
      · rw [r1.length] at hw
        rw [cut_whole hw] at P3
        exact P3 _ .refl S3 _ w
      · exact P3 _ (.new hq) (S3.new hq) _ (S3.tupN hq (Nat.le_trans (cutV_length _ _ _) z1) (cutD_reps r1 _ _))
    · cases hz
end

/-! ### what is walked -/
/-- the heap goes on from H0 (where A was to be spared) to H (where A' is), but for what stands in B -/
structure Kp (B A : Addr → Prop) (H0 : Hp) (A' : Addr → Prop) (H : Hp) : Prop where
  stay : ∀ b o, ¬ B b → H0 b = some o → NT o → H b = some o
  apart : ∀ b o, ¬ A b → H0 b = some o → NT o → ¬ A' b
  tr : ∀ a, A' a → H a ≠ none
/-- the iterator J hands out the items -/
def ItOk (K : PySem.W.Frag) (ce : Ce) (L : Lx) (B A : Addr → Prop) (H0 : Hp) (J : It) (items : List D) : Prop :=
  ∀ i H A', Kp B A H0 A' H → (i < items.length → J.go i H ∧ ∀ x H', J.yld i H x H' → (∀ b o, H b = some o → H' b = some o) ∧ ∃ d, items[i]? = some d ∧ Rep K ce L H' A' x d) ∧ (i = items.length → J.stop i H)
/-- the expression iter, walked by a for with the target tg (cl: within a comprehension, where no list of the call's own changes), gives the items e -/
def YI (X : Cx) (ce : Ce) (W : WX) (cl : Bool) (tg iter : Expr) (e : LS) : Prop :=
  ∃ wi, PI X tg iter wi ∧ ∀ (σ : St) (H : Hp) (R : It → Hp → Prop) (g : Gm) (ρ : List Sl) (dr : Dr), SR X.K ce g H σ ρ dr →
    Post X.K ce W g σ ρ H (e ρ dr) (fun items _ H' => ∀ J, ItOk X.K ce g.L (if cl = true then Pl g.L else g.A) g.A H' J items → R J H') → wi σ H R
theorem pi_or2 {X : Cx} {tg e : Expr} {t t' : TI} (h : PI X tg e t) (h' : PI X tg e t') : PI X tg e (fun σ H Q => t σ H Q ∨ t' σ H Q) := ⟨fun pins s σ H Q I q => q.elim (h.run pins s σ H Q I) (h'.run pins s σ H Q I)⟩
def asSeq : D → Option (List D)
  | .lst l => some l
  | .tup l => some l
  | _ => none
def sItems (e : ES) : LS := fun ρ dr => (e ρ dr).bind fun x dr1 => lift (asSeq x) dr1
def rangeL (lo : Int) : Nat → List D
  | 0 => []
  | n + 1 => .int lo :: rangeL (lo + 1) n
def rangeC (lo c : Int) : Nat → List D
  | 0 => []
  | n + 1 => .int lo :: rangeC (lo + c) c n
def enumL (i : Int) : List D → List D
  | [] => []
  | x :: xs => .tup [.int i, x] :: enumL (i + 1) xs
def zipL : List D → List D → List D
  | x :: xs, y :: ys => .tup [x, y] :: zipL xs ys
  | _, _ => []
theorem rangeL_length (lo : Int) (n : Nat) : (rangeL lo n).length = n := by
  induction n generalizing lo with
  | zero => rfl
  | succ n ih => simp [rangeL, ih]
theorem rangeL_get (lo : Int) (n i : Nat) (h : i < n) : (rangeL lo n)[i]? = some (.int (lo + i)) := by
  induction n generalizing lo i with
  | zero => omega
  | succ n ih =>
    cases i with
    | zero => simp [rangeL]
    | succ i =>
      simp only [rangeL, List.getElem?_cons_succ]
      rw [ih (lo + 1) i (by omega)]
      congr 2
      omega
theorem rangeC_length (lo c : Int) (n : Nat) : (rangeC lo c n).length = n := by
  induction n generalizing lo with
  | zero => rfl
  | succ n ih => simp [rangeC, ih]
theorem rangeC_get (lo c : Int) (n i : Nat) (h : i < n) : (rangeC lo c n)[i]? = some (.int (lo + i * c)) := by
  induction n generalizing lo i with
  | zero => omega
  | succ n ih =>
    cases i with
    | zero => simp [rangeC]
    | succ i =>
      simp only [rangeC, List.getElem?_cons_succ]
      rw [ih (lo + c) i (by omega)]
      congr 2
      have : ((i + 1 : Nat) : Int) * c = i * c + c := by
        rw [Int.natCast_add, Int.add_mul]
        simp
      omega
theorem enumL_length (k : Int) (l : List D) : (enumL k l).length = l.length := by
  induction l generalizing k with
  | nil => rfl
  | cons x xs ih => simp [enumL, ih]
theorem enumL_get (k : Int) (l : List D) (i : Nat) : (enumL k l)[i]? = (l[i]?).map fun x => .tup [.int (k + i), x] := by
  induction l generalizing k i with
  | nil => simp [enumL]
  | cons x xs ih =>
    cases i with
    | zero => simp [enumL]
    | succ i =>
      simp only [enumL, List.getElem?_cons_succ, ih]
      congr 1
      funext x
      congr 3
      omega
theorem zipL_length (l m : List D) : (zipL l m).length = min l.length m.length := by
  induction l generalizing m with
  | nil => simp [zipL]
  | cons x xs ih =>
    cases m with
    | nil => simp [zipL]
    | cons y ys => simp [zipL, ih, Nat.succ_min_succ]
theorem zipL_get (l m : List D) (i : Nat) {x y : D} (h1 : l[i]? = some x) (h2 : m[i]? = some y) : (zipL l m)[i]? = some (.tup [x, y]) := by
  induction l generalizing m i with
  | nil => simp at h1
  | cons x xs ih =>
    cases m with
    | nil => simp at h2
    | cons y ys =>
      cases i with
      | zero =>
        simp at h1 h2
        subst h1 h2
        simp [zipL]
      | succ i => simpa [zipL] using ih ys i (by simpa using h1) (by simpa using h2)
def sRange1 (a : ES) : LS := fun ρ dr => (a ρ dr).bind fun x dr1 => match x with
  | .int j => if -(2 ^ 62) ≤ j ∧ j < 2 ^ 62 then .ok (rangeL 0 j.toNat) dr1 else .fail
  | _ => .fail
def sRange2 (a b : ES) : LS := fun ρ dr => (a ρ dr).bind fun x dr1 => (b ρ dr1).bind fun y dr2 => match x, y with
  | .int i, .int j => if -(2 ^ 62) ≤ i ∧ i < 2 ^ 62 ∧ -(2 ^ 62) ≤ j ∧ j < 2 ^ 62 then .ok (rangeL i (j - i).toNat) dr2 else .fail
  | _, _ => .fail
/-- a range that goes down by ones -/
def sRangeD (a b : ES) : LS := fun ρ dr => (a ρ dr).bind fun x dr1 => (b ρ dr1).bind fun y dr2 => match x, y with
  | .int i, .int j => if -(2 ^ 62) ≤ i ∧ i < 2 ^ 62 ∧ -(2 ^ 62) ≤ j ∧ j < 2 ^ 62 then .ok (rangeC i (-1) (i - j).toNat) dr2 else .fail
  | _, _ => .fail
def sEnum (a : ES) : LS := fun ρ dr => (a ρ dr).bind fun x dr1 => lift ((asSeq x).map (enumL 0)) dr1
def sZip (a b : ES) : LS := fun ρ dr => (a ρ dr).bind fun x dr1 => (b ρ dr1).bind fun y dr2 => lift ((asSeq x).bind fun l => (asSeq y).map fun m => zipL l m) dr2
section
variable {X : Cx} {ce : Ce} {W : WX} {a b c tg : Expr} {ea eb ec : ES} {pos p tpos : Pos} {cl : Bool}
theorem Kp.reps {K : PySem.W.Frag} {L : Lx} {B A A' : Addr → Prop} {H0 H : Hp} (k : Kp B A H0 A' H) (hB : ∀ b, B b → A b) {xs : List V} {l : List D} (r : Reps K ce L H0 A xs l) : Reps K ce L H A' xs l := by
  refine r.mono (fun b o n e => k.stay b o (fun q => n (hB b q)) e) fun b q => ?_
  by_cases hA : A b
  · exact .inl hA
  · cases e : H0 b with
    | none => exact .inr (.of rfl)
    | some o =>
      by_cases t : NT o
      · exact absurd q (k.apart b o hA e t)
      · exact .inr fun u hu tu => t (by cases hu; exact tu)
def dKd : D → Kd
  | .tup _ => .t
  | _ => .l
/-- what reads as a sequence: which kind, where it stands, and that it stays while the walk goes on -/
theorem seq_at {K : PySem.W.Frag} {g : Gm} {H : Hp} {σ : St} {ρ : List Sl} {dr : Dr} (S : SR K ce g H σ ρ dr) {v : V} {d : D} {l : List D} (r : if cl = true then RepB K ce g H v d else Rep K ce g.L H g.A v d) (h : asSeq d = some l) :
    ∃ p xs, v = .ref p ∧ Reps K ce g.L H g.A xs l ∧ SqK K H (dKd d) p xs ∧ ∀ A' H', Kp (if cl = true then Pl g.L else g.A) g.A H A' H' → SqK K H' (dKd d) p xs := by
  have tupc : ∀ {l : List D}, Rep K ce g.L H g.A v (.tup l) → ∃ p xs, v = .ref p ∧ Reps K ce g.L H g.A xs l ∧ SqK K H .t p xs ∧ ∀ A' H', Kp (if cl = true then Pl g.L else g.A) g.A H A' H' → SqK K H' .t p xs := fun {l} q => by
    cases q with
    | tup t q =>
      refine ⟨_, _, rfl, q, t.sq, fun A' H' k => ?_⟩
      rcases t.2 with ⟨t2 | ⟨o, t2⟩, n⟩ | t2
      · exact .inl (.inl (k.stay _ _ (fun z => n (by cases cl <;> first | exact z | exact S.pl _ z)) t2 .tup))
      · exact .inl (.inr ⟨o, k.stay _ _ (fun z => n (by cases cl <;> first | exact z | exact S.pl _ z)) t2 .frz⟩)
      · exact t2 H'
  cases cl with
  | true =>
    rw [if_pos rfl] at r
    unfold asSeq at h
    split at h
    · cases h
      rcases r with r | ⟨p, xs, l', e1, e2, h1, h2, h3, h4⟩ | ⟨p, xs, l, l2, e1, e2, _⟩
      · cases r with
        | lst t q => exact ⟨_, _, rfl, q, t.sq, fun A' H' k => .of (k.stay _ _ (fun z => t.2.2 (S.pl _ z)) t.2.1 .lst)⟩
      · cases e2
        exact ⟨p, xs, e1, h4, .of h2, fun A' H' k => .of (k.stay _ _ h3 h2 .lst)⟩
      · cases e2
    · cases h
      exact tupc r.tup.choose_spec.choose_spec.2.2.2.2
    · cases h
  | false =>
    rw [if_neg Bool.false_ne_true] at r
    unfold asSeq at h
    split at h
    · cases h
      cases r with
      | lst t q => exact ⟨_, _, rfl, q, t.sq, fun A' H' k => .of (k.stay _ _ t.2.2 t.2.1 .lst)⟩
    · cases h
      exact tupc r
    · cases h
theorem cl_B {g : Gm} {K : PySem.W.Frag} {H : Hp} {σ : St} {ρ : List Sl} {dr : Dr} (S : SR K ce g H σ ρ dr) : ∀ b, (if cl = true then Pl g.L else g.A) b → g.A b := fun b h => by
  cases cl with
  | true => exact S.pl b h
  | false => exact h
def tCl (K : PySem.W.Frag) (ce : Ce) (W : WX) (cl : Bool) (e : ES) : TE := if cl = true then tB K ce W e else tE K ce W e
theorem tCl_run {σ : St} {H : Hp} {Q : VK} {g : Gm} {ρ : List Sl} {dr : Dr} {e : ES} (S : SR X.K ce g H σ ρ dr) (P : Post X.K ce W g σ ρ H (e ρ dr) fun d _ H' => ∀ v, (if cl = true then RepB X.K ce g H' v d else Rep X.K ce g.L H' g.A v d) → Q v H') : tCl X.K ce W cl e σ H Q := by
  cases cl with
  | true => exact ⟨g, ρ, dr, S, P⟩
  | false => exact ⟨g, ρ, dr, S, P⟩
/-- an operand of a walk: in a comprehension a list of the call's own does -/
abbrev YC (X : Cx) (ce : Ce) (W : WX) (cl : Bool) (ex : Expr) (e : ES) : Prop := PE X ex (tCl X.K ce W cl e)
theorem yc_e (h : YE X ce W a ea) : YC X ce W cl a ea := by
  cases cl with
  | true => exact yb_of h
  | false => exact h
theorem yc_b (h : YB X ce W a ea) : YC X ce W true a ea := h
theorem itl_ok {K : PySem.W.Frag} {L : Lx} {B A : Addr → Prop} {H0 : Hp} {p : Addr} {xs : List V} {l : List D} (hB : ∀ b, B b → A b) (r : Reps K ce L H0 A xs l) (st : ∀ A' H', Kp B A H0 A' H' → SqL K H' p xs) : ItOk K ce L B A H0 (Itl K p) l := fun i H A' k => by
  have s1 := st A' H k
  refine ⟨fun hi => ?_, fun hi => ⟨xs, s1, by rw [r.length]; exact Nat.le_of_eq hi.symm⟩⟩
  have hx : i < xs.length := by rw [r.length]; exact hi
  refine ⟨⟨xs, xs[i], s1, by simp [hx]⟩, fun x H' y => ?_⟩
  obtain ⟨e, y⟩ := y
  subst e
  refine ⟨fun _ _ e => e, ?_⟩
  obtain ⟨d, h1, h2⟩ := (k.reps hB r).get' (y xs s1)
  exact ⟨d, h1, h2⟩
theorem itt_ok {K : PySem.W.Frag} {L : Lx} {B A : Addr → Prop} {H0 : Hp} {p : Addr} {xs : List V} {l : List D} (hB : ∀ b, B b → A b) (r : Reps K ce L H0 A xs l) (st : ∀ A' H', Kp B A H0 A' H' → SqT K H' p xs) : ItOk K ce L B A H0 (Itt K p) l := fun i H A' k => by
  have s1 := st A' H k
  refine ⟨fun hi => ?_, fun hi => ⟨xs, s1, by rw [r.length]; exact Nat.le_of_eq hi.symm⟩⟩
  have hx : i < xs.length := by rw [r.length]; exact hi
  refine ⟨⟨xs, xs[i], s1, by simp [hx]⟩, fun x H' y => ?_⟩
  obtain ⟨e, y⟩ := y
  subst e
  refine ⟨fun _ _ e => e, ?_⟩
  obtain ⟨d, h1, h2⟩ := (k.reps hB r).get' (y xs s1)
  exact ⟨d, h1, h2⟩
theorem yi_seq (ya : YC X ce W cl a ea) : YI X ce W cl tg a (sItems ea) := by
  refine ⟨_, pi_or2 (pi_list ya) (pi_tup ya), fun σ H R g ρ dr S P => ?_⟩
  unfold sItems at P
  cases he : ea ρ dr with
  | fail => rw [he] at P; exact P.elim
  | exc x dr1 =>
    rw [he] at P
    exact .inl (tCl_run S (by rw [he]; exact P))
  | ok d dr1 =>
    rw [he] at P
    have P' : Post X.K ce W g σ ρ H (lift (asSeq d) dr1) _ := P
    cases hq : asSeq d with
    | none => rw [hq] at P'; exact P'.elim
    | some l =>
      rw [hq] at P'
      cases d with
      | lst l' =>
        refine .inl (tCl_run S ?_)
        rw [he]
        intro H1 E1 S1 v R1
        obtain ⟨p, xs, rfl, r, s1, st⟩ := seq_at S1 R1 hq
        exact ⟨p, rfl, ⟨xs, s1⟩, P' H1 E1 S1 _ (itl_ok (cl_B S1) r st)⟩
      | tup l' =>
        refine .inr (tCl_run S ?_)
        rw [he]
        intro H1 E1 S1 v R1
        obtain ⟨p, xs, rfl, r, s1, st⟩ := seq_at S1 R1 hq
        exact ⟨p, rfl, ⟨xs, s1⟩, P' H1 E1 S1 _ (itt_ok (cl_B S1) r st)⟩
      | _ => cases hq
end
end TP

set_option Elab.async false
set_option linter.all false
set_option maxRecDepth 100000
set_option maxHeartbeats 4000000
/-! TP, part 6: ranges, enumerate, zip as what is walked; list comprehensions. -/
namespace TP
open PySem L2
section
variable {X : Cx} {ce : Ce} {W : WX} {a b c tg : Expr} {ea eb ec : ES} {pos p tpos : Pos} {cl : Bool}
theorem itr_ok {K : PySem.W.Frag} {L : Lx} {B A : Addr → Prop} {H0 : Hp} {lo : Int} {n : Nat} : ItOk K ce L B A H0 (Itr lo n) (rangeL lo n) := fun i H A' k => by
  rw [rangeL_length]
  refine ⟨fun hi => ⟨hi, fun x H' y => ?_⟩, fun hi => Nat.le_of_eq hi.symm⟩
  obtain ⟨e, y⟩ := y
  subst e y
  exact ⟨fun _ _ e => e, _, rangeL_get lo n i hi, .int _⟩
theorem itc_ok {K : PySem.W.Frag} {L : Lx} {B A : Addr → Prop} {H0 : Hp} {lo c : Int} {n : Nat} : ItOk K ce L B A H0 (Itc lo c n) (rangeC lo c n) := fun i H A' k => by
  rw [rangeC_length]
  refine ⟨fun hi => ⟨hi, fun x H' y => ?_⟩, fun hi => Nat.le_of_eq hi.symm⟩
  obtain ⟨e, y⟩ := y
  subst e y
  exact ⟨fun _ _ e => e, _, rangeC_get lo c n i hi, .int _⟩
theorem yi_range1 (hm : X.mg "range" = none) (ya : YE X ce W a ea) (hg : Gl X "range" := by rfl) (hs : starEach [a] X.env = [(false, eval a X.env)] := by rfl) : YI X ce W cl tg (.Call (.Name "range" p) [a] [] pos) (sRange1 ea) := by
  refine ⟨_, pi_range1 hg hm (pa_cons ya pa_nil hs) hs, fun σ H R g ρ dr S P => ?_⟩
  refine ⟨g, ρ, dr, S, (Post.bind P).mono fun d1 dr1 H1 _ E1 S1 P1 v1 R1 => ?_⟩
  split at P1
  · split at P1
    · rename_i hj
      exact ⟨_, by rw [R1 |> RepB.of |> RepB.int], hj.1, hj.2, Post.ok P1 S1 _ itr_ok⟩
    · exact P1.elim
  · exact P1.elim
theorem yi_range2 (hm : X.mg "range" = none) (ya : YE X ce W a ea) (yb : YE X ce W b eb) (hg : Gl X "range" := by rfl) (hs : starEach [a, b] X.env = [(false, eval a X.env), (false, eval b X.env)] := by rfl) (hs2 : starEach [b] X.env = [(false, eval b X.env)] := by rfl) :
    YI X ce W cl tg (.Call (.Name "range" p) [a, b] [] pos) (sRange2 ea eb) := by
  refine ⟨_, pi_range2 hg hm (pa_cons ya (pa_cons yb pa_nil hs2) (by rw [hs, hs2])) hs hs2, fun σ H R g ρ dr S P => ?_⟩
  refine ⟨g, ρ, dr, S, (Post.bind P).mono fun d1 dr1 H1 _ E1 S1 P1 v1 R1 => ⟨g, ρ, dr1, S1, (Post.bind P1).mono fun d2 dr2 H2 _ E2 S2 P2 v2 R2 => ?_⟩⟩
  split at P2
  · split at P2
    · rename_i hj
      exact ⟨_, _, by rw [R1 |> RepB.of |> RepB.int, R2 |> RepB.of |> RepB.int], hj, Post.ok P2 S2 _ itr_ok⟩
    · exact P2.elim
  · exact P2.elim
theorem yi_rangeD {j k : Int} {p3 p4 : Pos} {q : Nat} (hm : X.mg "range" = none) (ya : YE X ce W a ea) (yb : YE X ce W b eb) (hg : Gl X "range" := by rfl)
    (hs : starEach [a, b, .UnaryOp .USub (.Constant (.int 1) q p3) p4] X.env = (false, eval a X.env) :: starEach [b, .UnaryOp .USub (.Constant (.int 1) q p3) p4] X.env := by rfl)
    (hs2 : starEach [b, .UnaryOp .USub (.Constant (.int 1) q p3) p4] X.env = (false, eval b X.env) :: starEach [.UnaryOp .USub (.Constant (.int 1) q p3) p4] X.env := by rfl)
    (hs3 : starEach [.UnaryOp .USub (.Constant (.int 1) q p3) p4] X.env = (false, eval (.UnaryOp .USub (.Constant (.int 1) q p3) p4) X.env) :: starEach [] X.env := by rfl)
    (hpl : (backTo pos (starEach [b, .UnaryOp .USub (.Constant (.int 1) q p3) p4] X.env)).any (·.1) = false := by rfl) :
    YI X ce W cl tg (.Call (.Name "range" p) [a, b, .UnaryOp .USub (.Constant (.int 1) q p3) p4] [] pos) (sRangeD ea eb) := by
  refine ⟨_, pi_range3 hg hm (pa_cons ya (pa_cons yb (pa_cons (pe_un un_neg pe_int) pa_nil hs3) hs2) hs) hs hpl, fun σ H R g ρ dr S P => ?_⟩
  refine ⟨g, ρ, dr, S, (Post.bind P).mono fun d1 dr1 H1 _ E1 S1 P1 v1 R1 => ⟨g, ρ, dr1, S1, (Post.bind P1).mono fun d2 dr2 H2 _ E2 S2 P2 v2 R2 => ?_⟩⟩
  split at P2
  · split at P2
    · rename_i hj
      refine ⟨1, rfl, _, _, -1, _, by rw [R1 |> RepB.of |> RepB.int, R2 |> RepB.of |> RepB.int], RgC.neg hj.1 hj.2.1 hj.2.2.1 hj.2.2.2, Post.ok P2 S2 _ itc_ok⟩
    · exact P2.elim
  · exact P2.elim
theorem itek_ok {K : PySem.W.Frag} {L : Lx} {B A : Addr → Prop} {H0 : Hp} {q : Addr} {k : Kd} {xs : List V} {l : List D} (hB : ∀ b, B b → A b) (r : Reps K ce L H0 A xs l) (st : ∀ A' H', Kp B A H0 A' H' → SqK K H' k q xs) :
    ItOk K ce L B A H0 (IteK K k q) (enumL 0 l) := fun i H A' kp => by
  have s1 := st A' H kp
  rw [enumL_length]
  refine ⟨fun hi => ?_, fun hi => ⟨xs, s1, by rw [r.length]; exact hi.symm⟩⟩
  have hx : i < xs.length := by rw [r.length]; exact hi
  refine ⟨⟨xs, xs[i], s1, by simp [hx]⟩, fun x H' y => ?_⟩
  obtain ⟨T, z, rfl, hT, rfl, y⟩ := y
  obtain ⟨d, h1, h2⟩ := (kp.reps hB r).get' (y xs s1)
  have nT : ¬ A' T := fun q => kp.tr T q hT
  have up : ∀ b o, H b = some o → upd H T (.tup [.int (i : Nat), z]) b = some o := fun b o e => by rw [upd_ne (ne_of_none e hT)]; exact e
  refine ⟨up, .tup [.int i, d], by rw [enumL_get, h1]; simp, .tup ⟨by show 2 ≤ sizeLine; decide, .inl ⟨.inl upd_same, nT⟩⟩ (.cons (.int _) (.cons (h2.mono (fun b o _ e _ => up b o e) fun _ q => .inl q) .nil))⟩
theorem itzk_ok {K : PySem.W.Frag} {L : Lx} {B A : Addr → Prop} {H0 : Hp} {q q2 : Addr} {k k2 : Kd} {xs ys : List V} {l m : List D} (hB : ∀ b, B b → A b) (r : Reps K ce L H0 A xs l) (r2 : Reps K ce L H0 A ys m) (st : ∀ A' H', Kp B A H0 A' H' → SqK K H' k q xs) (st2 : ∀ A' H', Kp B A H0 A' H' → SqK K H' k2 q2 ys) :
    ItOk K ce L B A H0 (ItzK K k k2 q q2) (zipL l m) := fun i H A' kp => by
  have s1 := st A' H kp
  have s2 := st2 A' H kp
  rw [zipL_length]
  refine ⟨fun hi => ?_, fun hi => ⟨xs, ys, s1, s2, by rw [r.length, r2.length]; exact hi.symm⟩⟩
  have hx : i < xs.length := by rw [r.length]; omega
  have hy : i < ys.length := by rw [r2.length]; omega
  refine ⟨⟨xs, ys, xs[i], ys[i], s1, s2, by simp [hx], by simp [hy]⟩, fun x H' y => ?_⟩
  obtain ⟨T, z, z2, rfl, hT, rfl, y, y2⟩ := y
  obtain ⟨d, h1, h2⟩ := (kp.reps hB r).get' (y xs s1)
  obtain ⟨d2, h3, h4⟩ := (kp.reps hB r2).get' (y2 ys s2)
  have nT : ¬ A' T := fun q => kp.tr T q hT
  have up : ∀ b o, H b = some o → upd H T (.tup [z, z2]) b = some o := fun b o e => by rw [upd_ne (ne_of_none e hT)]; exact e
  have mv : ∀ {v : V} {d : D}, Rep K ce L H A' v d → Rep K ce L (upd H T (.tup [z, z2])) A' v d := fun h => h.mono (fun b o _ e _ => up b o e) fun _ q => .inl q
  exact ⟨up, .tup [d, d2], zipL_get l m i h1 h3, .tup ⟨by show 2 ≤ sizeLine; decide, .inl ⟨.inl upd_same, nT⟩⟩ (.cons (mv h2) (.cons (mv h4) .nil))⟩
theorem tCl_bind {σ : St} {H : Hp} {Q : VK} {g : Gm} {ρ : List Sl} {dr : Dr} {e : ES} {α : Type} {k : D → Dr → Res α} {ok : α → Dr → Hp → Prop} (S : SR X.K ce g H σ ρ dr) (P : Post X.K ce W g σ ρ H ((e ρ dr).bind k) ok)
    (h : ∀ d dr1 H1 v, e ρ dr = .ok d dr1 → Ext g.L H H1 → SR X.K ce g H1 σ ρ dr1 → Post X.K ce W g σ ρ H1 (k d dr1) ok → (if cl = true then RepB X.K ce g H1 v d else Rep X.K ce g.L H1 g.A v d) → Q v H1) : tCl X.K ce W cl e σ H Q :=
  tCl_run S ((Post.bind P).mono fun d dr1 H1 e1 E1 S1 P1 v R1 => h d dr1 H1 v e1 E1 S1 P1 R1)
theorem yi_enum {elts : List Expr} {kk : Nat} (hm : X.mg "enumerate" = none) (ya : YC X ce W cl a ea) (hg : Gl X "enumerate" := by rfl) (hs : starEach [a] X.env = [(false, eval a X.env)] := by rfl) : YI X ce W cl (.Tuple elts kk tpos) (.Call (.Name "enumerate" p) [a] [] pos) (sEnum ea) := by
  refine ⟨_, pi_or2 (pi_enumK .l hg hm (pa_cons ya pa_nil hs) hs) (pi_enumK .t hg hm (pa_cons ya pa_nil hs) hs), fun σ H R g ρ dr S P => ?_⟩
  unfold sEnum at P
  have go : ∀ k, (∀ d dr1, ea ρ dr = .ok d dr1 → dKd d = k) → tCons (tCl X.K ce W cl ea) tNil σ H fun vs H1 => ∃ a xs, vs = [.ref a] ∧ SqK X.K H1 k a xs ∧ R (IteK X.K k a) H1 := fun k hk => by
    refine tCl_bind S P fun d dr1 H1 v e1 E1 S1 P1 R1 => ?_
    cases hq : asSeq d with
    | none => rw [hq] at P1; exact P1.elim
    | some l =>
      rw [hq] at P1
      obtain ⟨p, xs, rfl, r, s1, st⟩ := seq_at S1 R1 hq
      rw [hk d dr1 e1] at s1 st
      exact ⟨p, xs, rfl, s1, Post.ok P1 S1 _ (itek_ok (cl_B S1) r st)⟩
  cases he : ea ρ dr with
  | fail => rw [he] at P; exact P.elim
  | exc x dr1 => exact .inl (go .l fun d dr1 e => by rw [he] at e; cases e)
  | ok d dr1 =>
    cases hd : dKd d with
    | l => exact .inl (go .l fun d' dr1 e => by rw [he] at e; cases e; exact hd)
    | t => exact .inr (go .t fun d' dr1 e => by rw [he] at e; cases e; exact hd)
theorem yi_zip {elts : List Expr} {kk : Nat} (hm : X.mg "zip" = none) (ya : YC X ce W cl a ea) (yb : YC X ce W cl b eb) (hg : Gl X "zip" := by rfl) (hs : starEach [a, b] X.env = (false, eval a X.env) :: starEach [b] X.env := by rfl) (hs2 : starEach [b] X.env = (false, eval b X.env) :: starEach [] X.env := by rfl)
    (hpl : (backTo pos (starEach [b] X.env)).any (·.1) = false := by rfl) : YI X ce W cl (.Tuple elts kk tpos) (.Call (.Name "zip" p) [a, b] [] pos) (sZip ea eb) := by
  have pa := pa_cons ya (pa_cons yb pa_nil hs2) hs
  refine ⟨_, pi_or2 (pi_or2 (pi_zipK .l .l hg hm pa hs hpl) (pi_zipK .l .t hg hm pa hs hpl)) (pi_or2 (pi_zipK .t .l hg hm pa hs hpl) (pi_zipK .t .t hg hm pa hs hpl)), fun σ H R g ρ dr S P => ?_⟩
  unfold sZip at P
  have go : ∀ k k2, (∀ d dr1, ea ρ dr = .ok d dr1 → dKd d = k ∧ ∀ d2 dr2, eb ρ dr1 = .ok d2 dr2 → dKd d2 = k2) → tCons (tCl X.K ce W cl ea) (tCons (tCl X.K ce W cl eb) tNil) σ H fun vs H1 => ∃ a b xs ys, vs = [.ref a, .ref b] ∧ SqK X.K H1 k a xs ∧ SqK X.K H1 k2 b ys ∧ R (ItzK X.K k k2 a b) H1 := fun k k2 hk => by
    refine tCl_bind S P fun d dr1 H1 v e1 E1 S1 P1 R1 => tCl_bind S1 P1 fun d2 dr2 H2 v2 e2 E2 S2 P2 R2 => ?_
    obtain ⟨hk1, hk2⟩ := hk d dr1 e1
    cases hq : asSeq d with
    | none => rw [hq] at P2; exact P2.elim
    | some l =>
      cases hq2 : asSeq d2 with
      | none => rw [hq, hq2] at P2; exact P2.elim
      | some m =>
        rw [hq, hq2] at P2
        have R1' : if cl = true then RepB X.K ce g H2 v d else Rep X.K ce g.L H2 g.A v d := by
          cases cl with
          | true => exact RepB.step S1 E2 R1
          | false => exact S1.rep E2 R1
        obtain ⟨p, xs, rfl, r, s1, st⟩ := seq_at S2 R1' hq
        obtain ⟨p2, ys, rfl, r2, s2, st2⟩ := seq_at S2 R2 hq2
        rw [hk1] at s1 st
        rw [hk2 d2 dr2 e2] at s2 st2
        exact ⟨p, p2, xs, ys, rfl, s1, s2, Post.ok P2 S2 _ (itzk_ok (cl_B S2) r r2 st st2)⟩
  cases he : ea ρ dr with
  | fail => rw [he] at P; exact P.elim
  | exc x dr1 => exact .inl (.inl (go .l .l fun d dr1 e => by rw [he] at e; cases e))
  | ok d dr1 =>
    cases he2 : eb ρ dr1 with
    | fail =>
      rw [he] at P
      have P' : Post X.K ce W g σ ρ H ((eb ρ dr1).bind _) _ := P
      rw [he2] at P'
      exact P'.elim
    | exc x dr2 =>
      cases hd : dKd d with
      | l => exact .inl (.inl (go .l .l fun d' dr' e => by rw [he] at e; cases e; exact ⟨hd, fun d2 dr2 e => by rw [he2] at e; cases e⟩))
      | t => exact .inr (.inl (go .t .l fun d' dr' e => by rw [he] at e; cases e; exact ⟨hd, fun d2 dr2 e => by rw [he2] at e; cases e⟩))
    | ok d2 dr2 =>
      cases hd : dKd d with
      | l =>
        cases hd2 : dKd d2 with
        | l => exact .inl (.inl (go .l .l fun d' dr' e => by rw [he] at e; cases e; exact ⟨hd, fun d2 dr2 e => by rw [he2] at e; cases e; exact hd2⟩))
        | t => exact .inl (.inr (go .l .t fun d' dr' e => by rw [he] at e; cases e; exact ⟨hd, fun d2 dr2 e => by rw [he2] at e; cases e; exact hd2⟩))
      | t =>
        cases hd2 : dKd d2 with
        | l => exact .inr (.inl (go .t .l fun d' dr' e => by rw [he] at e; cases e; exact ⟨hd, fun d2 dr2 e => by rw [he2] at e; cases e; exact hd2⟩))
        | t => exact .inr (.inr (go .t .t fun d' dr' e => by rw [he] at e; cases e; exact ⟨hd, fun d2 dr2 e => by rw [he2] at e; cases e; exact hd2⟩))
end
end TP

set_option Elab.async false
set_option linter.all false
set_option maxRecDepth 100000
set_option maxHeartbeats 4000000
/-! TP, part 7: targets, list comprehensions. -/
namespace TP
open PySem L2

theorem wipe_get (σ : St) (j : Nat) : ∀ vs : List Nat, (wipe σ vs)[j]? = if j ∈ vs then (σ[j]?).map fun _ => none else σ[j]?
  | [] => by simp [wipe]
  | v :: vs => by
    unfold wipe
    rw [List.getElem?_set, wipe_length]
    by_cases e : v = j
    · subst e
      by_cases h : v < σ.length
      · simp [h]
      · simp [h]
    · rw [if_neg e, wipe_get σ j vs]
      have e' : ¬ j = v := fun z => e z.symm
      simp [e']
theorem wipe_set {σ : St} {i : Nat} {x : Option V} {vs : List Nat} (h : i ∈ vs) : wipe (σ.set i x) vs = wipe σ vs := by
  apply List.ext_getElem?
  intro j
  rw [wipe_get, wipe_get, List.getElem?_set]
  by_cases hj : j ∈ vs
  · rw [if_pos hj, if_pos hj]
    by_cases e : i = j
    · subst e
      by_cases hl : i < σ.length
      · simp [hl]
      · simp [hl]
    · rw [if_neg e]
  · rw [if_neg hj, if_neg hj, if_neg (fun e : i = j => hj (by rw [← e]; exact h))]
theorem wipe_wipe (σ : St) (vs : List Nat) : wipe (wipe σ vs) vs = wipe σ vs := by
  apply List.ext_getElem?
  intro j
  rw [wipe_get, wipe_get]
  by_cases hj : j ∈ vs
  · simp only [if_pos hj, Option.map_map]
    rfl
  · simp only [if_neg hj]
def wipeS (ρ : List Sl) : List Nat → List Sl
  | [] => ρ
  | v :: vs => (wipeS ρ vs).set v .un
theorem wipeS_length (ρ : List Sl) : ∀ vs, (wipeS ρ vs).length = ρ.length
  | [] => rfl
  | v :: vs => by unfold wipeS; rw [List.length_set, wipeS_length ρ vs]
theorem getD_set (σ : St) (i j : Nat) (x : Option V) (h : i < σ.length) : (σ.set i x).getD j none = if i = j then x else σ.getD j none := by
  rw [List.getD_eq_getElem?_getD, List.getElem?_set]
  by_cases e : i = j
  · subst e
    simp [h]
  · rw [if_neg e, if_neg e, List.getD_eq_getElem?_getD]
section
variable {K : PySem.W.Frag} {ce : Ce} {g : Gm} {H : Hp} {σ : St} {ρ : List Sl} {dr : Dr}
/-- a slot is set anew to what stands for a slot's state, not the same as another one's own list -/
theorem SR.put (S : SR K ce g H σ ρ dr) {i : Nat} {x : Option V} {s : Sl} (h : SlR K ce g H x s) (n : s.mine = true → ∀ j t, ρ[j]? = some t → t.mine = true → σ.getD j none ≠ x) : SR K ce g H (σ.set i x) (ρ.set i s) dr where
  ext := S.ext
  tt := S.tt
  nc := S.nc
  a0 := S.a0
  sub := S.sub
  pl := S.pl
  tr := S.tr
  gk := S.gk
  len := by rw [List.length_set, List.length_set]; exact S.len
  sl := fun j t ht => by
    rw [List.getElem?_set] at ht
    by_cases e : i = j
    · subst e
      rw [if_pos rfl] at ht
      split at ht
      · rename_i hl
        cases ht
        rw [getD_set _ _ _ _ (by rw [← S.len]; exact hl), if_pos rfl]
        exact h
      · cases ht
    · rw [if_neg e] at ht
      by_cases hl : i < σ.length
      · rw [getD_set _ _ _ _ hl, if_neg e]
        exact S.sl j t ht
      · rw [List.set_eq_of_length_le (by omega)]
        exact S.sl j t ht
  dj := fun j k s1 t1 hjk h1 h2 m1 m2 => by
    by_cases hl : i < σ.length
    · rw [List.getElem?_set] at h1 h2
      rw [getD_set _ _ _ _ hl, getD_set _ _ _ _ hl]
      by_cases e : i = j
      · subst e
        rw [if_pos rfl]
        rw [if_pos rfl] at h1
        rw [if_neg hjk] at h2
        rw [if_neg hjk]
        split at h1
        · cases h1
          exact (n m1 k t1 h2 m2).symm
        · cases h1
      · rw [if_neg e] at h1
        rw [if_neg e]
        by_cases e2 : i = k
        · subst e2
          rw [if_pos rfl]
          rw [if_pos rfl] at h2
          split at h2
          · cases h2
            exact n m2 j s1 h1 m1
          · cases h2
        · rw [if_neg e2] at h2
          rw [if_neg e2]
          exact S.dj j k s1 t1 hjk h1 h2 m1 m2
    · have hl2 : ¬ i < ρ.length := by rw [S.len]; exact hl
      rw [List.set_eq_of_length_le (by omega)] at h1 h2
      rw [List.set_eq_of_length_le (by omega)]
      exact S.dj j k s1 t1 hjk h1 h2 m1 m2
theorem SR.setVal (S : SR K ce g H σ ρ dr) (i : Nat) {v : V} {d : D} (h : Rep K ce g.L H g.A v d) : SR K ce g H (σ.set i (some v)) (ρ.set i (.val d)) dr := S.put (s := .val d) h fun m => absurd (show false = true from m) Bool.false_ne_true
theorem SR.wipe (S : SR K ce g H σ ρ dr) : ∀ vs, SR K ce g H (L2.wipe σ vs) (wipeS ρ vs) dr
  | [] => S
  | v :: vs => (S.wipe vs).put (s := .un) (show SlR K ce g H none .un from trivial) fun m => absurd (show false = true from m) Bool.false_ne_true
/-- one more address is spared: what stands there was nothing at H0' -/
theorem SR.grow (S : SR K ce g H σ ρ dr) {H' : Hp} {dr' : Dr} {p : Addr} (hp : Nn (H p)) (e : Ext g.L H H') (q : GOk K H' g.L dr') (hp' : ∃ o, H' p = some o ∧ NT o) : SR K ce { g with A := fun a => g.A a ∨ a = p } H' σ ρ dr' := by
  have S' := S.step e q
  have mv : ∀ b, (g.A b ∨ b = p) → g.A b ∨ Nn (H b) := fun b hb => hb.elim .inl fun z => .inr (by rw [z]; exact hp)
  have far := S.far e
  exact {
    ext := S'.ext
    tt := S.tt
    nc := fun lo e z => z.elim (S.nc lo e) fun q => by
      have k := S.gk.1
      rw [e] at k
      exact hp _ (by rw [← q]; exact k.2.2.1) .lst
    a0 := S.a0
    sub := fun a h => .inl (S.sub a h)
    pl := fun a h => .inl (S.pl a h)
    tr := fun a h => h.elim (S'.tr a) fun z => .inr (by rw [z]; exact hp')
    gk := q
    len := S.len
    sl := fun i s hs => by
      have h := S.sl i s hs
      cases hv : σ.getD i none with
      | none => rw [hv] at h; cases s <;> first | exact h | exact h.elim
      | some v =>
        rw [hv] at h
        cases s with
        | un => exact h
        | val d => exact Rep.mono h far mv
        | own l =>
          obtain ⟨q, xs, e1, h1, h2, h3, h4, h5, h6⟩ := h
          exact ⟨q, xs, e1, .inl h1, h2, h3, h4, e _ _ h5 (fun z => h2 z.dl) (by first | exact .lst | exact .dK), h6.mono far mv⟩
        | owd ks vs =>
          obtain ⟨q, xs, e1, h1, h2, h3, h4, h5, h6⟩ := h
          exact ⟨q, xs, e1, .inl h1, h2, h3, h4, e _ _ h5 (fun z => h2 z.dl) (by first | exact .lst | exact .dK), h6.mono far mv⟩
    dj := S.dj }
end

/-! ### targets -/
abbrev GS := D → List Sl → Option (List Sl)
def gN (i : Nat) : GS := fun d ρ => some (ρ.set i (.val d))
abbrev GSs := List D → List Sl → Option (List Sl)
def gNl : GSs := fun ds ρ => match ds with
  | [] => some ρ
  | _ => none
def gCn (a : GS) (b : GSs) : GSs := fun ds ρ => match ds with
  | d :: ds => (a d ρ).bind (b ds)
  | _ => none
def gTp (a : GSs) : GS := fun d ρ => match d with
  | .tup l => a l ρ
  | _ => none
/-- the target tg, whose names stand at the places vs, stores as b tells -/
def YG (X : Cx) (ce : Ce) (tg : Expr) (b : GS) (vs : List Nat) : Prop :=
  ∃ t, PG X tg t ∧ ∀ (g : Gm) (σ : St) (ρ : List Sl) (dr : Dr) (H : Hp) (v : V) (d : D) (ρ' : List Sl) (Q : St → Hp → Prop), SR X.K ce g H σ ρ dr → Rep X.K ce g.L H g.A v d → b d ρ = some ρ' →
    (∀ σ', SR X.K ce g H σ' ρ' dr → (∀ ws : List Nat, (∀ i ∈ vs, i ∈ ws) → wipe σ' ws = wipe σ ws) → Q σ' H) → t v σ H Q
/-- how many targets there are, and what they do with as many data -/
def YGs (X : Cx) (ce : Ce) (tg : List Expr) (b : GSs) (vs : List Nat) : Prop :=
  ∃ t, PGs X tg t ∧ (∀ ds ρ ρ', b ds ρ = some ρ' → ds.length = tg.length) ∧ ∀ (g : Gm) (σ : St) (ρ : List Sl) (dr : Dr) (H : Hp) (us : List V) (ds : List D) (ρ' : List Sl) (Q : St → Hp → Prop), SR X.K ce g H σ ρ dr → Reps X.K ce g.L H g.A us ds → b ds ρ = some ρ' →
    (∀ σ', SR X.K ce g H σ' ρ' dr → (∀ ws : List Nat, (∀ i ∈ vs, i ∈ ws) → wipe σ' ws = wipe σ ws) → Q σ' H) → t us σ H Q
section
variable {X : Cx} {ce : Ce} {pos : Pos}
theorem yg_name {i : Nat} {x : Str} (h : PG X (.Name x pos) (gName i)) : YG X ce (.Name x pos) (gN i) [i] := by
  refine ⟨_, h, fun g σ ρ dr H v d ρ' Q S r hb k => ?_⟩
  cases hb
  exact k _ (S.setVal i r) fun ws hw => wipe_set (hw i (by simp))
theorem ygs_nil : YGs X ce [] gNl [] := by
  refine ⟨_, pgs_nil, fun ds ρ ρ' h => ?_, fun g σ ρ dr H us ds ρ' Q S r hb k => ?_⟩
  · unfold gNl at h
    split at h
    · rfl
    · cases h
  · unfold gNl at hb
    split at hb
    · cases hb
      cases r
      exact ⟨rfl, k _ S fun _ _ => rfl⟩
    · cases hb
theorem ygs_cons {e : Expr} {es : List Expr} {b : GS} {bs : GSs} {vs ws : List Nat} (h1 : YG X ce e b vs) (h2 : YGs X ce es bs ws) (hc : ∀ t u, PG X e t → PGs X es u → PGs X (e :: es) (gCons t u)) : YGs X ce (e :: es) (gCn b bs) (vs ++ ws) := by
  obtain ⟨t, p1, k1⟩ := h1
  obtain ⟨u, p2, hl, k2⟩ := h2
  refine ⟨_, hc t u p1 p2, fun ds ρ ρ' h => ?_, fun g σ ρ dr H us ds ρ' Q S r hb k => ?_⟩
  · unfold gCn at h
    split at h
    · rename_i d ds
      cases h1 : b d ρ with
      | none => rw [h1] at h; cases h
      | some ρ1 =>
        rw [h1] at h
        rw [List.length_cons, hl ds ρ1 ρ' h, List.length_cons]
    · cases h
  · unfold gCn at hb
    split at hb
    · rename_i d ds
      cases r with
      | cons r1 r2 =>
        cases h1 : b d ρ with
        | none => rw [h1] at hb; cases hb
        | some ρ1 =>
          rw [h1] at hb
          refine ⟨_, _, rfl, k1 g σ ρ dr H _ d ρ1 _ S r1 h1 fun σ1 S1 w1 => ?_⟩
          refine k2 g σ1 ρ1 dr H _ ds ρ' _ S1 r2 hb fun σ2 S2 w2 => k σ2 S2 fun zs hz => ?_
          rw [w2 zs fun i hi => hz i (List.mem_append_right _ hi), w1 zs fun i hi => hz i (List.mem_append_left _ hi)]
    · cases hb
theorem yg_tup {es : List Expr} {k : Nat} {bs : GSs} {vs : List Nat} (h : YGs X ce es bs vs) (hp : ∀ t, PGs X es t → PG X (.Tuple es k pos) (gTup X.K es.length t)) : YG X ce (.Tuple es k pos) (gTp bs) vs := by
  obtain ⟨t, p1, hl, k1⟩ := h
  refine ⟨_, hp t p1, fun g σ ρ dr H v d ρ' Q S r hb k => ?_⟩
  unfold gTp at hb
  split at hb
  · cases r with
    | tup h q => exact ⟨_, _, rfl, h.sq, by rw [q.length]; exact hl _ _ _ hb, k1 g σ ρ dr H _ _ ρ' Q S q hb k⟩
  · cases hb
end

/-! ### [e for .. in .. if ..] -/
def cGo (b : GS) (c : BS) (e : ES) (ρ : List Sl) : List D → List D → Dr → Res (List D)
  | [], acc, dr => .ok acc dr
  | x :: xs, acc, dr => match b x ρ with
    | none => .fail
    | some ρ1 => match c ρ1 dr with
      | .ok true dr1 => match e ρ1 dr1 with
        | .ok d dr2 => cGo b c e ρ xs (acc ++ [d]) dr2
        | _ => .fail
      | .ok false dr1 => cGo b c e ρ xs acc dr1
      | _ => .fail
def sComp (it : LS) (b : GS) (c : BS) (e : ES) (vs : List Nat) : LS := fun ρ dr => (it ρ dr).bind fun items dr1 => if items.length ≤ sizeLine then cGo b c e (wipeS ρ vs) items [] dr1 else .fail
def cYes : BS := fun _ dr => .ok true dr
abbrev YTs (X : Cx) (ce : Ce) (W : WX) (ifs : List Expr) (c : BS) : Prop := PTs X ifs (tT X.K ce W c)
section
variable {X : Cx} {ce : Ce} {W : WX}
theorem yts_nil : YTs X ce W [] cYes := ⟨fun pins s σ H Q I ⟨g, ρ, dr, S, P⟩ => pts_nil.run pins s σ H Q I (Post.ok P S)⟩
theorem yts_one {c : Expr} {e : BS} (h : YT X ce W c e) : YTs X ce W [c] e := pts_one h
/-- the reading of a comprehension -/
theorem comp_run {t : TG} {wi : TI} {it : LS} {b : GS} {c : BS} {e : ES} {vs ws' : List Nat} {σ : St} {H : Hp} {Q : VK} {g : Gm} {ρ : List Sl} {dr : Dr}
    (hi : ∀ (σ : St) (H : Hp) (R : It → Hp → Prop) (g : Gm) (ρ : List Sl) (dr : Dr), SR X.K ce g H σ ρ dr → Post X.K ce W g σ ρ H (it ρ dr) (fun items _ H' => ∀ J, ItOk X.K ce g.L (Pl g.L) g.A H' J items → R J H') → wi σ H R)
    (ht : ∀ (g : Gm) (σ : St) (ρ : List Sl) (dr : Dr) (H : Hp) (v : V) (d : D) (ρ' : List Sl) (Q : St → Hp → Prop), SR X.K ce g H σ ρ dr → Rep X.K ce g.L H g.A v d → b d ρ = some ρ' →
      (∀ σ', SR X.K ce g H σ' ρ' dr → (∀ ws : List Nat, (∀ i ∈ ws', i ∈ ws) → wipe σ' ws = wipe σ ws) → Q σ' H) → t v σ H Q) (hw : ∀ i ∈ ws', i ∈ vs)
    (S : SR X.K ce g H σ ρ dr) (P : Post X.K ce W g σ ρ H (sComp it b c e vs ρ dr) fun l _ H' => ∀ p xs, Nn (H p) → ¬ Dl g.L p → H' p = some (.lst xs) → xs.length ≤ sizeLine → Reps X.K ce g.L H' (fun a => g.A a ∨ a = p) xs l → Q (.ref p) H') :
    tLc wi t (tT X.K ce W0 c) (tE X.K ce W0 e) vs σ H Q := by
  refine hi σ H _ g ρ dr S ((Post.bind P).mono fun items dr1 H1 _ E1 S1 P1 J hJ D hD => ?_)
  split at P1
  case isFalse => exact P1.elim
  case isTrue hlen =>
  generalize hr : cGo b c e (wipeS ρ vs) items [] dr1 = r at P1
  have DnP : ¬ Pl g.L D := fun z => S1.trn D (S1.pl D z) hD
  have Dn : Nn (H D) := E1.back hD DnP
  refine ⟨fun i m H2 => m = items.length - i ∧ i ≤ items.length ∧ ∃ acc vacc dr2, r = cGo b c e (wipeS ρ vs) (items.drop i) acc dr2 ∧ Ext g.L H1 H2 ∧ SR X.K ce { g with A := fun a => g.A a ∨ a = D } H2 σ ρ dr2 ∧ H2 D = some (.lst vacc) ∧ vacc.length ≤ i ∧
    Reps X.K ce g.L H2 (fun a => g.A a ∨ a = D) vacc acc, ⟨_, rfl, Nat.zero_le _, [], [], dr1, by rw [List.drop_zero]; exact hr.symm, .new hD, ?_, upd_same, Nat.zero_le _, .nil⟩, ?_⟩
  · exact S1.grow (.of hD) (.new hD) (S1.gk.new hD) (⟨_, upd_same, .lst⟩)
  · rintro i m H2 ⟨rfl, hi2, acc, vacc, dr2, hr2, E2, S2, hD2, hv, R2⟩
    have kp : Kp (Pl g.L) g.A H1 (fun a => g.A a ∨ a = D) H2 := ⟨fun b o n e => E2 b o e n, fun b o n e _ z => z.elim n fun z => (by rw [z, hD] at e; cases e), S2.trn⟩
    obtain ⟨go, stop⟩ := hJ i H2 _ kp
    by_cases hlt : i < items.length
    · obtain ⟨g1, g2⟩ := go hlt
      refine .inr ⟨g1, fun H' => ∃ m', m' < items.length - i ∧ m' = items.length - (i + 1) ∧ i + 1 ≤ items.length ∧ ∃ acc vacc dr2, r = cGo b c e (wipeS ρ vs) (items.drop (i + 1)) acc dr2 ∧ Ext g.L H1 H' ∧ SR X.K ce { g with A := fun a => g.A a ∨ a = D } H' σ ρ dr2 ∧ H' D = some (.lst vacc) ∧ vacc.length ≤ i + 1 ∧
        Reps X.K ce g.L H' (fun a => g.A a ∨ a = D) vacc acc, fun H' h => h, fun x H3 y => ?_⟩
      obtain ⟨sm, d, hd, rd⟩ := g2 x H3 y
      have E3 : Ext g.L H2 H3 := fun b o e _ _ => sm b o e
      have S3 := S2.step (dr' := dr2) E3 (GOk.keep S2.gk sm)
      have e1 : items.drop i = d :: items.drop (i + 1) := by
        rw [List.drop_eq_getElem_cons hlt]
        have := (List.getElem?_eq_some_iff.mp hd).2
        rw [this]
      rw [e1] at hr2
      unfold cGo at hr2
      cases hb : b d (wipeS ρ vs) with
      | none =>
        rw [hb] at hr2
        rw [hr2] at P1
        exact P1.elim
      | some ρ1 =>
        rw [hb] at hr2
        refine ht { g with A := fun a => g.A a ∨ a = D } (wipe σ vs) (wipeS ρ vs) dr2 H3 x d ρ1 _ (S3.wipe vs) rd hb fun σ2 S4 w4 => ⟨?_, ?_⟩
        · rw [w4 vs hw, wipe_wipe]
        · refine ⟨{ g with A := fun a => g.A a ∨ a = D }, ρ1, dr2, S4, ?_⟩
          cases hc : c ρ1 dr2 with
          | fail =>
            simp only [hc] at hr2
            rw [hr2] at P1
            exact P1.elim
          | exc xx dd =>
            simp only [hc] at hr2
            rw [hr2] at P1
            exact P1.elim
          | ok k dr3 =>
            intro H4 E4 S5
            cases k with
            | false =>
              simp only [hc] at hr2
              refine iteF ⟨items.length - (i + 1), by omega, rfl, hlt, acc, vacc, dr3, hr2, (E2.trans E3).trans E4, ?_, E4 _ _ (E3 _ _ hD2 DnP .lst) DnP .lst, by omega, ?_⟩
              · exact S3.step E4 S5.gk
              · exact S3.reps E4 (S2.reps E3 R2)
            | true =>
              simp only [hc] at hr2
              refine iteT ⟨{ g with A := fun a => g.A a ∨ a = D }, ρ1, dr3, S5, ?_⟩
              cases he : e ρ1 dr3 with
              | fail =>
                simp only [he] at hr2
                rw [hr2] at P1
                exact P1.elim
              | exc xx dd =>
                simp only [he] at hr2
                rw [hr2] at P1
                exact P1.elim
              | ok z dr4 =>
                simp only [he] at hr2
                intro H5 E5 S6 vz rz
                have E6 : Ext g.L H2 H5 := (E3.trans E4).trans E5
                have hD5 := E6 _ _ hD2 DnP .lst
                refine ⟨vacc, hD5, by rw [sizeLine_eq] at hlen ⊢; omega, items.length - (i + 1), by omega, rfl, hlt, acc ++ [z], vacc ++ [vz], dr4, hr2, ?_, ?_, upd_same, by rw [List.length_append]; simp; omega, ?_⟩
                · intro b o h1 h2 t
                  have h3 := (E2.trans E6) b o h1 h2 t
                  rw [upd_ne fun z => by rw [z, hD] at h1; cases h1]
                  exact h3
                · refine S1.grow (.of hD) ?_ (GOk.upd S6.gk (S1.gk.not hD) fun φ z => by rw [hD5] at z; cases z) (⟨_, upd_same, .lst⟩)
                  intro b o h1 h2 t
                  rw [upd_ne fun z => by rw [z, hD] at h1; cases h1]
                  exact (E2.trans E6) b o h1 h2 t
                · have up : ∀ b o, ¬ (g.A b ∨ b = D) → H5 b = some o → NT o → upd H5 D (.lst (vacc ++ [vz])) b = some o := fun b o n e _ => by
                    rw [upd_ne fun z => n (.inr z)]
                    exact e
                  exact ((S2.reps E6 R2).append (.cons rz .nil)).mono up fun _ q => .inl q
    · have hi3 : i = items.length := by omega
      refine .inl ⟨stop hi3, ?_⟩
      rw [hi3, List.drop_length] at hr2
      rw [hr2] at P1
      have P2 : ∀ H', Ext g.L H1 H' → SR X.K ce g H' σ ρ dr2 → _ := P1
      exact P2 H2 E2 (S1.step E2 S2.gk) D vacc Dn (S1.gk.not hD) hD2 (by omega) R2
end
end TP

set_option Elab.async false
set_option linter.all false
set_option maxRecDepth 100000
set_option maxHeartbeats 4000000
/-! TP, part 8: statements. -/
namespace TP
open PySem L2

inductive Fl where
  | nx (ρ : List Sl) | rt (d : D) | bk (ρ : List Sl) | ct (ρ : List Sl)
abbrev SS := List Sl → Dr → Res Fl
structure GN (g g' : Gm) : Prop where
  L : g'.L = g.L
  H0 : g'.H0 = g.H0
  A0 : g'.A0 = g.A0
theorem GN.refl {g : Gm} : GN g g := ⟨rfl, rfl, rfl⟩
theorem GN.trans {a b c : Gm} (x : GN a b) (y : GN b c) : GN a c := ⟨y.L.trans x.L, y.H0.trans x.H0, y.A0.trans x.A0⟩
/-- what was out of reach of writes stands and is out of reach -/
def Kg (g : Gm) (H : Hp) (g' : Gm) (H' : Hp) : Prop := ∀ b o, ¬ g.A b → H b = some o → NT o → H' b = some o ∧ ¬ g'.A b
theorem Kg.refl {g : Gm} {H : Hp} : Kg g H g H := fun _ _ n e _ => ⟨e, n⟩
theorem Kg.trans {a b c : Gm} {H H1 H2 : Hp} (x : Kg a H b H1) (y : Kg b H1 c H2) : Kg a H c H2 := fun q o n e t => let ⟨e1, n1⟩ := x q o n e t; y q o n1 e1 t
def SP' (K : PySem.W.Frag) (ce : Ce) (W : WX) (g : Gm) (H : Hp) (r : Res Fl) (D : Ends) : Prop :=
  match r with
  | .ok (.nx ρ') dr' => ∀ σ' H' g', GN g g' → Kg g H g' H' → SR K ce g' H' σ' ρ' dr' → D.nx σ' H'
  | .ok (.bk ρ') dr' => ∀ σ' H' g', GN g g' → Kg g H g' H' → SR K ce g' H' σ' ρ' dr' → D.bk σ' H'
  | .ok (.ct ρ') dr' => ∀ σ' H' g', GN g g' → Kg g H g' H' → SR K ce g' H' σ' ρ' dr' → D.ct σ' H'
  | .ok (.rt d) dr' => ∀ v H', Ext g.L g.H0 H' → GOk K H' g.L dr' → Rep K ce g.L H' g.A0 v d → D.rt v H'
  | .exc x dr' => ∀ σ' c dd H', Ext g.L g.H0 H' → GOk K H' g.L dr' → ExcR K ce g.L H' g.A0 c dd x → W c dd σ' H'
  | .fail => False
def tS (K : PySem.W.Frag) (ce : Ce) (W : WX) (s : SS) : TS := fun D σ H => ∃ (g : Gm) (ρ : List Sl) (dr : Dr), SR K ce g H σ ρ dr ∧ SP' K ce W g H (s ρ dr) D
abbrev YS (X : Cx) (ce : Ce) (W : WX) (st : Stmt) (s : SS) : Prop := PS X st (tS X.K ce W s)
abbrev YSs (X : Cx) (ce : Ce) (W : WX) (st : List Stmt) (s : SS) : Prop := PSs X st (tS X.K ce W s)

def sNext : SS := fun ρ dr => .ok (.nx ρ) dr
def sSeq (a b : SS) : SS := fun ρ dr => match a ρ dr with
  | .ok (.nx ρ') dr' => b ρ' dr'
  | r => r
def sDrop (e : ES) : SS := fun ρ dr => (e ρ dr).bind fun _ dr1 => .ok (.nx ρ) dr1
def sRet (e : ES) : SS := fun ρ dr => (e ρ dr).bind fun d dr1 => .ok (.rt d) dr1
def sRetN : SS := fun _ dr => .ok (.rt .non) dr
def sIfS (c : ES) (a b : SS) : SS := fun ρ dr => (sT c ρ dr).bind fun k dr1 => if k = true then a ρ dr1 else b ρ dr1
def sAsg (b : GS) (e : ES) : SS := fun ρ dr => (e ρ dr).bind fun d dr1 => match b d ρ with
  | some ρ' => .ok (.nx ρ') dr1
  | none => .fail
section
variable {K : PySem.W.Frag} {ce : Ce} {W : WX} {g g' : Gm} {H H' H1 : Hp} {σ : St} {ρ : List Sl} {dr dr' : Dr}
theorem SP'.move {r : Res Fl} {D : Ends} (n : GN g g') (k : Kg g H g' H') (h : SP' K ce W g H r D) : SP' K ce W g' H' r D := by
  cases r with
  | ok f dr' =>
    cases f with
    | nx ρ' => exact fun σ2 H2 g2 n2 k2 S2 => h σ2 H2 g2 (n.trans n2) (k.trans k2) S2
    | bk ρ' => exact fun σ2 H2 g2 n2 k2 S2 => h σ2 H2 g2 (n.trans n2) (k.trans k2) S2
    | ct ρ' => exact fun σ2 H2 g2 n2 k2 S2 => h σ2 H2 g2 (n.trans n2) (k.trans k2) S2
    | rt d =>
      intro v H2 e q r
      rw [n.L] at e q r
      rw [n.H0] at e
      rw [n.A0] at r
      exact h v H2 e q r
  | exc x dr' =>
    intro σ2 c dd H2 e q r
    rw [n.L] at e q r
    rw [n.H0] at e
    rw [n.A0] at r
    exact h σ2 c dd H2 e q r
  | fail => exact h
theorem SR.kg (S : SR K ce g H σ ρ dr) (e : Ext g.L H H1) : Kg g H g H1 := fun b o n h t => ⟨e b o h (fun q => n (S.pl b q)) t, n⟩
/-- an expression within a statement -/
theorem SP'.post {α : Type} {r : Res α} {k : α → Dr → Res Fl} {D : Ends} (h : SP' K ce W g H (r.bind k) D) (S : SR K ce g H σ ρ dr) : Post K ce W g σ ρ H r fun a dr1 H1 => SP' K ce W g H1 (k a dr1) D := by
  cases r with
  | ok a dr1 => exact fun H1 e S1 => SP'.move .refl (S.kg e) h
  | exc x dr1 =>
    intro H1 c dd e S1 X
    exact h σ c dd H1 (S.ext.trans e) S1.gk (X.mono (fun _ _ _ q _ => q) fun b q => .inl (S.sub b q))
  | fail => exact h
theorem SP'.post0 {α : Type} {r : Res α} {k : α → Dr → Res Fl} {D : Ends} (h : SP' K ce W g H (r.bind k) D) (S : SR K ce g H σ ρ dr) : Post K ce W g σ ρ H r fun a dr1 _ => SP' K ce W g H (k a dr1) D := by
  cases r with
  | ok a dr1 => exact fun H1 e S1 => h
  | exc x dr1 =>
    intro H1 c dd e S1 X
    exact h σ c dd H1 (S.ext.trans e) S1.gk (X.mono (fun _ _ _ q _ => q) fun b q => .inl (S.sub b q))
  | fail => exact h
theorem SR.ret0 (S : SR K ce g H σ ρ dr) {v : V} {d : D} (r : Rep K ce g.L H g.A v d) : Rep K ce g.L H g.A0 v d := r.mono (fun _ _ _ q _ => q) fun b q => .inl (S.sub b q)
end
section
variable {X : Cx} {ce : Ce} {W : WX} {a b c e : Expr} {ea eb ec : ES} {pos pos' : Pos} {st : Stmt} {rest : List Stmt} {s t : SS}
theorem yss_nil : YSs X ce W [] sNext := pss_imp pss_nil fun D σ H ⟨g, ρ, dr, S, P⟩ => P σ H g .refl .refl S
theorem yss_one (h : YS X ce W st s) : YSs X ce W [st] s := pss_one h
theorem yss_cons (h1 : YS X ce W st s) (h2 : YSs X ce W rest t) : YSs X ce W (st :: rest) (sSeq s t) := by
  refine pss_imp (pss_cons h1 h2) fun D σ H ⟨g, ρ, dr, S, P⟩ => ?_
  refine ⟨g, ρ, dr, S, ?_⟩
  unfold sSeq at P
  cases hs : s ρ dr with
  | ok f dr1 =>
    simp only [hs] at P
    cases f with
    | nx ρ' => exact fun σ' H' g' n k S' => ⟨g', ρ', dr1, S', SP'.move n k P⟩
    | _ => exact P
  | exc x dr1 => simp only [hs] at P; exact P
  | fail => simp only [hs] at P; exact P
theorem ys_pass : YS X ce W (.Pass pos) sNext := ps_imp ps_pass fun D σ H ⟨g, ρ, dr, S, P⟩ => P σ H g .refl .refl S
theorem ys_doc {x j} : YS X ce W (.Expr (.Constant (.str x) j pos) pos') sNext := ps_imp ps_doc fun D σ H ⟨g, ρ, dr, S, P⟩ => P σ H g .refl .refl S
theorem ys_drop (ya : YE X ce W e ea) (hs : swapsWith e none pos.line X.env = pure false := by rfl) : YS X ce W (.Expr e pos) (sDrop ea) := by
  refine ps_imp (ps_expr ya hs) fun D σ H ⟨g, ρ, dr, S, P⟩ => ?_
  exact ⟨g, ρ, dr, S, (SP'.post P S).mono fun d dr1 H1 _ E1 S1 P1 v R => P1 σ H1 g .refl .refl S1⟩
theorem ys_ret (ya : YE X ce W e ea) : YS X ce W (.Return (some e) pos) (sRet ea) := by
  refine ps_imp (ps_ret ya) fun D σ H ⟨g, ρ, dr, S, P⟩ => ?_
  exact ⟨g, ρ, dr, S, (SP'.post P S).mono fun d dr1 H1 _ E1 S1 P1 v R => P1 v H1 S1.ext S1.gk (S1.ret0 R)⟩
theorem ys_retN : YS X ce W (.Return none pos) sRetN := ps_imp ps_retN fun D σ H ⟨g, ρ, dr, S, P⟩ => P .non H S.ext S.gk .non
theorem ys_if {aa bb : List Stmt} (yc : YT X ce W c (sT ec)) (ya : YSs X ce W aa s) (yb : YSs X ce W bb t) : YS X ce W (.If c aa bb pos) (sIfS ec s t) := by
  refine ps_imp (ps_if yc ya yb) fun D σ H ⟨g, ρ, dr, S, P⟩ => ?_
  refine ⟨g, ρ, dr, S, (SP'.post P S).mono fun k dr1 H1 _ E1 S1 P1 => ?_⟩
  cases k with
  | true => exact iteT ⟨g, ρ, dr1, S1, P1⟩
  | false => exact iteF ⟨g, ρ, dr1, S1, P1⟩
/-- target = value, what is stored is data -/
theorem ys_asg {tg : Expr} {b : GS} {vs : List Nat} (ya : YE X ce W e ea) (yg : YG X ce tg b vs) (hp : ∀ t, PG X tg t → PS X (.Assign [tg] e pos) (tAsg (tE X.K ce W ea) t)) : YS X ce W (.Assign [tg] e pos) (sAsg b ea) := by
  obtain ⟨t, p1, k1⟩ := yg
  refine ps_imp (hp t p1) fun D σ H ⟨g, ρ, dr, S, P⟩ => ?_
  refine ⟨g, ρ, dr, S, (SP'.post P S).mono fun d dr1 H1 _ E1 S1 P1 v R => ?_⟩
  split at P1
  · rename_i hb
    exact k1 g σ ρ dr1 H1 v d _ _ S1 R hb fun σ' S' _ => P1 σ' H1 g .refl .refl S'
  · exact P1.elim

/-! ### a name gets a datum, or a new list (dict) of its own -/
abbrev ZS := List Sl → Dr → Res Sl
def zV (e : ES) : ZS := fun ρ dr => (e ρ dr).bind fun d dr1 => .ok (.val d) dr1
def zF (e : LS) : ZS := fun ρ dr => (e ρ dr).bind fun l dr1 => .ok (.own l) dr1
def zD (ks : List Key) (e : LS) : ZS := fun ρ dr => (e ρ dr).bind fun l dr1 => .ok (.owd ks l) dr1
/-- the value v, come between H and H', is for a slot's state s; the addresses that it takes -/
def NewS (K : PySem.W.Frag) (ce : Ce) (L : Lx) (A : Addr → Prop) (H H' : Hp) (v : V) : Sl → Prop
  | .val d => Rep K ce L H' A v d
  | .own l => ∃ p xs, v = .ref p ∧ Nn (H p) ∧ ¬ Dl L p ∧ H' p = some (.lst xs) ∧ xs.length ≤ sizeLine ∧ Reps K ce L H' (fun a => A a ∨ a = p) xs l
  | .owd ks vs => ∃ p us, v = .ref p ∧ Nn (H p) ∧ ¬ Dl L p ∧ H' p = some (.dK (ks.zip us)) ∧ ks.length = us.length ∧ Reps K ce L H' (fun a => A a ∨ a = p) us vs
  | .un => False
def tZ (K : PySem.W.Frag) (ce : Ce) (W : WX) (z : ZS) : TE := fun σ H Q => ∃ (g : Gm) (ρ : List Sl) (dr : Dr), SR K ce g H σ ρ dr ∧
  Post K ce W g σ ρ H (z ρ dr) fun s _ H' => ∀ v, NewS K ce g.L g.A H H' v s → Q v H'
abbrev YZ (X : Cx) (ce : Ce) (W : WX) (ex : Expr) (z : ZS) : Prop := PE X ex (tZ X.K ce W z)
theorem yz_v (ya : YE X ce W e ea) : YZ X ce W e (zV ea) := pe_imp ya fun σ H Q ⟨g, ρ, dr, S, P⟩ => ⟨g, ρ, dr, S, (Post.bind P).mono fun d dr1 H1 _ E1 S1 P1 v R => Post.ok P1 S1 v R⟩
theorem yz_f {la : LS} (ya : YF X ce W e la) : YZ X ce W e (zF la) := pe_imp ya fun σ H Q ⟨g, ρ, dr, S, P⟩ => ⟨g, ρ, dr, S, (Post.bind P).mono fun l dr1 H1 _ E1 S1 P1 p xs h0 hd h1 hz R => Post.ok P1 S1 _ ⟨p, xs, rfl, h0, hd, h1, hz, R⟩⟩
/-- the ground behind such a value -/
def gAdd (g : Gm) (v : V) : Sl → Gm
  | .own _ => { g with A := fun a => g.A a ∨ v = .ref a }
  | .owd _ _ => { g with A := fun a => g.A a ∨ v = .ref a }
  | _ => g
theorem gAdd_gn {g : Gm} {v : V} {s : Sl} : GN g (gAdd g v s) := by cases s <;> exact ⟨rfl, rfl, rfl⟩
theorem or_ref {A : Addr → Prop} {p : Addr} : (fun a => A a ∨ (V.ref p) = .ref a) = fun a => A a ∨ a = p := by
  funext a
  exact propext ⟨fun h => h.elim .inl fun e => .inr (by cases e; rfl), fun h => h.elim .inl fun e => .inr (by rw [e])⟩
theorem NewS.add {K : PySem.W.Frag} {g : Gm} {H H' : Hp} {σ : St} {ρ : List Sl} {dr dr' : Dr} {v : V} {s : Sl} (S : SR K ce g H σ ρ dr) (E : Ext g.L H H') (q : GOk K H' g.L dr') (n : NewS K ce g.L g.A H H' v s) :
    SR K ce (gAdd g v s) H' σ ρ dr' ∧ SlR K ce (gAdd g v s) H' (some v) s ∧ Kg g H (gAdd g v s) H' ∧ (s.mine = true → ∀ j t, ρ[j]? = some t → t.mine = true → σ.getD j none ≠ some v) := by
  have key : ∀ p o, v = .ref p → Nn (H p) → ¬ Dl g.L p → H' p = some o → NT o → SR K ce { g with A := fun a => g.A a ∨ a = p } H' σ ρ dr' ∧ Kg g H { g with A := fun a => g.A a ∨ a = p } H' ∧ ¬ Dl g.L p ∧ Nn (g.H0 p) ∧ ∀ j t, ρ[j]? = some t → t.mine = true → σ.getD j none ≠ some v := fun p o ev h0 hd h1 hn => by
    refine ⟨S.grow h0 E q ⟨o, h1, hn⟩, fun b u nb hb t => ⟨E b u hb (fun z => nb (S.pl b z)) t, fun z => z.elim nb fun e => ?_⟩, hd, fun u hz t => ?_, fun j t hj mt e => ?_⟩
    · rw [e] at hb
      exact h0 _ hb t
    · exact h0 u (S.ext p u hz (fun z => hd z.dl) t) t
    · have z := S.sl j t hj
      rw [e, ev] at z
      cases t with
      | own l =>
        obtain ⟨q, xs, e1, _, _, _, _, h5, _⟩ := z
        cases e1
        exact h0 _ h5 .lst
      | owd ks vs =>
        obtain ⟨q, xs, e1, _, _, _, _, h5, _⟩ := z
        cases e1
        exact h0 _ h5 .dK
      | _ => cases mt
  cases s with
  | un => exact n.elim
  | val d => exact ⟨S.step E q, n, S.kg E, fun m => by cases m⟩
  | own l =>
    obtain ⟨p, xs, rfl, h0, hd, h1, hz, R⟩ := n
    obtain ⟨k1, k2, k3, k4, k5⟩ := key p _ rfl h0 hd h1 (by first | exact .lst | exact .dK)
    unfold gAdd
    rw [or_ref]
    exact ⟨k1, ⟨p, xs, rfl, .inr rfl, k3, k4, hz, h1, R⟩, k2, fun _ => k5⟩
  | owd ks vs =>
    obtain ⟨p, us, rfl, h0, hd, h1, hz, R⟩ := n
    obtain ⟨k1, k2, k3, k4, k5⟩ := key p _ rfl h0 hd h1 (by first | exact .lst | exact .dK)
    unfold gAdd
    rw [or_ref]
    exact ⟨k1, ⟨p, us, rfl, .inr rfl, k3, k4, hz, h1, R⟩, k2, fun _ => k5⟩
def sSet (i : Nat) (z : ZS) : SS := fun ρ dr => (z ρ dr).bind fun s dr1 => .ok (.nx (ρ.set i s)) dr1
theorem set_run {i : Nat} {z : ZS} (D : Ends) (σ : St) (H : Hp) (h : tS X.K ce W (sSet i z) D σ H) : tAsg (tZ X.K ce W z) (gName i) D σ H := by
  obtain ⟨g, ρ, dr, S, P⟩ := h
  refine ⟨g, ρ, dr, S, (SP'.post0 P S).mono fun s dr1 H1 _ E1 S1 P1 v N => ?_⟩
  obtain ⟨k1, k2, k3, k4⟩ := N.add S E1 S1.gk
  exact P1 _ H1 _ gAdd_gn k3 (k1.put k2 k4)
end
end TP

set_option Elab.async false
set_option linter.all false
set_option maxRecDepth 100000
set_option maxHeartbeats 4000000
/-! TP, part 9: comprehensions as expressions, stores, loops. -/
namespace TP
open PySem L2

/-! ### targets, told apart: what the text is, what it does -/
def GSm (K : PySem.W.Frag) (ce : Ce) (t : TG) (b : GS) (vs : List Nat) : Prop :=
  ∀ (g : Gm) (σ : St) (ρ : List Sl) (dr : Dr) (H : Hp) (v : V) (d : D) (ρ' : List Sl) (Q : St → Hp → Prop), SR K ce g H σ ρ dr → Rep K ce g.L H g.A v d → b d ρ = some ρ' →
    (∀ σ', SR K ce g H σ' ρ' dr → (∀ ws : List Nat, (∀ i ∈ vs, i ∈ ws) → wipe σ' ws = wipe σ ws) → Q σ' H) → t v σ H Q
def GSms (K : PySem.W.Frag) (ce : Ce) (n : Nat) (t : TGs) (b : GSs) (vs : List Nat) : Prop :=
  (∀ ds ρ ρ', b ds ρ = some ρ' → ds.length = n) ∧ ∀ (g : Gm) (σ : St) (ρ : List Sl) (dr : Dr) (H : Hp) (us : List V) (ds : List D) (ρ' : List Sl) (Q : St → Hp → Prop), SR K ce g H σ ρ dr → Reps K ce g.L H g.A us ds → b ds ρ = some ρ' →
    (∀ σ', SR K ce g H σ' ρ' dr → (∀ ws : List Nat, (∀ i ∈ vs, i ∈ ws) → wipe σ' ws = wipe σ ws) → Q σ' H) → t us σ H Q
section
variable {K : PySem.W.Frag} {ce : Ce}
theorem gsm_name {i : Nat} : GSm K ce (gName i) (gN i) [i] := fun g σ ρ dr H v d ρ' Q S r hb k => by
  cases hb
  exact k _ (S.setVal i r) fun ws hw => wipe_set (hw i (by simp))
theorem gsms_nil : GSms K ce 0 gNil gNl [] := by
  refine ⟨fun ds ρ ρ' h => ?_, fun g σ ρ dr H us ds ρ' Q S r hb k => ?_⟩
  · unfold gNl at h
    split at h
    · rfl
    · cases h
  · unfold gNl at hb
    split at hb
    · cases hb
      cases r
      exact ⟨rfl, k _ S fun _ _ => rfl⟩
    · cases hb
theorem gsms_cons {n : Nat} {t : TG} {u : TGs} {b : GS} {bs : GSs} {vs ws : List Nat} (k1 : GSm K ce t b vs) (h2 : GSms K ce n u bs ws) : GSms K ce (n + 1) (gCons t u) (gCn b bs) (vs ++ ws) := by
  obtain ⟨hl, k2⟩ := h2
  refine ⟨fun ds ρ ρ' h => ?_, fun g σ ρ dr H us ds ρ' Q S r hb k => ?_⟩
  · unfold gCn at h
    split at h
    · rename_i d ds
      cases h1 : b d ρ with
      | none => rw [h1] at h; cases h
      | some ρ1 =>
        rw [h1] at h
        rw [List.length_cons, hl ds ρ1 ρ' h]
    · cases h
  · unfold gCn at hb
    split at hb
    · rename_i d ds
      cases r with
      | cons r1 r2 =>
        cases h1 : b d ρ with
        | none => rw [h1] at hb; cases hb
        | some ρ1 =>
          rw [h1] at hb
          refine ⟨_, _, rfl, k1 g σ ρ dr H _ d ρ1 _ S r1 h1 fun σ1 S1 w1 => ?_⟩
          refine k2 g σ1 ρ1 dr H _ ds ρ' _ S1 r2 hb fun σ2 S2 w2 => k σ2 S2 fun zs hz => ?_
          rw [w2 zs fun i hi => hz i (List.mem_append_right _ hi), w1 zs fun i hi => hz i (List.mem_append_left _ hi)]
    · cases hb
theorem gsm_tup {n : Nat} {u : TGs} {bs : GSs} {vs : List Nat} (h : GSms K ce n u bs vs) : GSm K ce (gTup K n u) (gTp bs) vs := by
  obtain ⟨hl, k1⟩ := h
  intro g σ ρ dr H v d ρ' Q S r hb k
  unfold gTp at hb
  split at hb
  · cases r with
    | tup h q => exact ⟨_, _, rfl, h.sq, by rw [q.length]; exact hl _ _ _ hb, k1 g σ ρ dr H _ _ ρ' Q S q hb k⟩
  · cases hb
end
section
variable {X : Cx} {ce : Ce} {W : WX} {pos : Pos}
theorem yg_mk {tg : Expr} {t : TG} {b : GS} {vs : List Nat} (p : PG X tg t) (s : GSm X.K ce t b vs) : YG X ce tg b vs := ⟨t, p, s⟩

/-! ### comprehensions -/
theorem pe_comp {elt tg iter : Expr} {ifs : List Expr} {scope : Scope} {own : List (Str × Nat)} {it : LS} {b : GS} {c : BS} {e : ES} {ws : List Nat} (t : TG) (hc : X.calm = true) (hN : X.N.Nodup) (hi : YI X ce W true tg iter it) (ok : BlkOk X.N X.env.scope scope own)
    (hs : GSm X.K ce t b ws) (hw : ∀ i ∈ ws, i ∈ own.map (·.2))
    (hg : ∀ (s : Shared) (H : Hp) (C : Addr) (cl : List (Str × Addr)) (fp : List Addr), PG (X.blk s H scope (compEnvC scope cl C X.env) fp) tg t)
    (ht : ∀ (s : Shared) (H : Hp) (C : Addr) (cl : List (Str × Addr)) (fp : List Addr), YTs (X.blk s H scope (compEnvC scope cl C X.env) fp) ce W0 ifs c)
    (he : ∀ (s : Shared) (H : Hp) (C : Addr) (cl : List (Str × Addr)) (fp : List Addr), YE (X.blk s H scope (compEnvC scope cl C X.env) fp) ce W0 elt e) (hf : ∀ x, foldedSetIterable iter X.env x = pure x := by intro _; rfl) :
    YF X ce W (.ListComp elt [⟨tg, iter, ifs, 0⟩] scope pos) (sComp it b c e (own.map (·.2))) := by
  obtain ⟨wi, hi, hi'⟩ := hi
  exact pe_imp (pe_lc (tt := tT X.K ce W0 c) (te := tE X.K ce W0 e) hc hN hi ok hg ht he hf) fun σ H Q ⟨g, ρ, dr, S, P⟩ => comp_run (fun σ H R g ρ dr S' P' => hi' σ H R g ρ dr S' P') hs hw S P
theorem ys_set {i : Nat} {x : Str} {e : Expr} {z : ZS} {pos' : Pos} (hN : X.N.Nodup) (hi : X.N[i]? = some x) (hx : Loc X.env.scope x) (he : YZ X ce W e z) (hs : swapsWith e (some (.Name x pos')) pos.line X.env = pure false := by rfl) (hf : X.fn x = true ∨ X.env.scope.names.lookup x = some .local := by first | exact .inl rfl | exact .inr rfl | assumption) :
    YS X ce W (.Assign [.Name x pos'] e pos) (sSet i z) := ps_imp (ps_set hN hi hx he hs hf) fun D σ H h => set_run D σ H h
theorem ys_setLc {i : Nat} {y : Str} {py spos : Pos} {elt tg iter : Expr} {ifs : List Expr} {scope : Scope} {own : List (Str × Nat)} {it : LS} {b : GS} {c : BS} {e : ES} {ws : List Nat} (t : TG) (hc : X.calm = true) (hN : X.N.Nodup) (hy : X.N[i]? = some y) (hyl : X.env.scope.names.lookup y = some .local)
    (hsw : swapsWith (.ListComp elt [⟨tg, iter, ifs, 0⟩] scope pos) (some (.Name y py)) spos.line X.env = pure true) (hi : YI X ce W true tg iter it) (ok : BlkOk X.N X.env.scope scope own)
    (hs : GSm X.K ce t b ws) (hw : ∀ i ∈ ws, i ∈ own.map (·.2))
    (hg : ∀ (s : Shared) (H : Hp) (C : Addr) (cl : List (Str × Addr)) (fp : List Addr), PG (X.blk s H scope (compEnvC scope cl C X.env) fp) tg t)
    (ht : ∀ (s : Shared) (H : Hp) (C : Addr) (cl : List (Str × Addr)) (fp : List Addr), YTs (X.blk s H scope (compEnvC scope cl C X.env) fp) ce W0 ifs c)
    (he : ∀ (s : Shared) (H : Hp) (C : Addr) (cl : List (Str × Addr)) (fp : List Addr), YE (X.blk s H scope (compEnvC scope cl C X.env) fp) ce W0 elt e) (hf : ∀ x, foldedSetIterable iter X.env x = pure x := by intro _; rfl) :
    YS X ce W (.Assign [.Name y py] (.ListComp elt [⟨tg, iter, ifs, 0⟩] scope pos) spos) (sSet i (zF (sComp it b c e (own.map (·.2))))) := by
  obtain ⟨wi, hi, hi'⟩ := hi
  refine ps_imp (ps_setLc (tt := tT X.K ce W0 c) (te := tE X.K ce W0 e) hc hN hy hyl hsw hi ok hg ht he hf) fun D σ H h => ?_
  obtain ⟨g, ρ, dr, S, P⟩ := set_run D σ H h
  refine comp_run (fun σ H R g ρ dr S' P' => hi' σ H R g ρ dr S' P') hs hw S ?_
  exact (Post.bind P).mono fun l dr1 H1 _ E1 S1 P1 p xs h0 hd h1 hz R => Post.ok P1 S1 _ ⟨p, xs, rfl, h0, hd, h1, hz, R⟩

/-! ### an own list becomes a datum -/
def shareS (ρ : List Sl) (i : Nat) : List Sl := match ρ[i]? with
  | some (.own l) => ρ.set i (.val (.lst l))
  | _ => ρ
theorem SR.unspare {K : PySem.W.Frag} {g : Gm} {H : Hp} {σ : St} {ρ : List Sl} {dr : Dr} (S : SR K ce g H σ ρ dr) {i : Nat} {s s' : Sl} {p : Addr} (hs : ρ[i]? = some s) (hm : s.mine = true) (hp : σ.getD i none = some (.ref p)) (h0 : Nn (g.H0 p)) (hd : ¬ Dl g.L p)
    (hr : SlR K ce { g with A := fun a => g.A a ∧ a ≠ p } H (some (.ref p)) s') (hm' : s'.mine = false) : SR K ce { g with A := fun a => g.A a ∧ a ≠ p } H σ (ρ.set i s') dr where
  ext := S.ext
  tt := S.tt
  nc := fun lo e z => S.nc lo e z.1
  a0 := S.a0
  sub := fun a ha => ⟨S.sub a ha, fun e => by
    rcases S.a0 a ha with z | ⟨o, h1, h2⟩
    · exact hd (by rw [← e]; exact z.dl)
    · rw [e] at h1; exact h0 o h1 h2⟩
  pl := fun a ha => ⟨S.pl a ha, fun e => hd (by rw [← e]; exact ha.dl)⟩
  tr := fun a ha => S.tr a ha.1
  gk := S.gk
  len := by rw [List.length_set]; exact S.len
  sl := fun j t ht => by
    by_cases e : i = j
    · subst e
      rw [List.getElem?_set_self (List.getElem?_eq_some_iff.mp hs).1] at ht
      cases ht
      rw [hp]
      exact hr
    · rw [List.getElem?_set_ne e] at ht
      have q := S.sl j t ht
      cases hv : σ.getD j none with
      | none => rw [hv] at q; cases t <;> first | exact q | exact q.elim
      | some v =>
        rw [hv] at q
        have mv : ∀ (v : V) (d : D), Rep K ce g.L H g.A v d → Rep K ce g.L H (fun a => g.A a ∧ a ≠ p) v d := fun v d r => r.mono (fun _ _ _ e _ => e) fun b hb => .inl hb.1
        have mvs : ∀ (v : List V) (d : List D), Reps K ce g.L H g.A v d → Reps K ce g.L H (fun a => g.A a ∧ a ≠ p) v d := fun v d r => r.mono (fun _ _ _ e _ => e) fun b hb => .inl hb.1
        cases t with
        | un => exact q
        | val d => exact mv _ _ q
        | own l =>
          obtain ⟨p', xs, e1, h1, h2, h3, h4, h5, h6⟩ := q
          refine ⟨p', xs, e1, ⟨h1, fun z => ?_⟩, h2, h3, h4, h5, mvs _ _ h6⟩
          exact S.dj i j s (.own l) e hs ht hm rfl (by rw [hp, hv, e1, z])
        | owd ks us =>
          obtain ⟨p', xs, e1, h1, h2, h3, h4, h5, h6⟩ := q
          refine ⟨p', xs, e1, ⟨h1, fun z => ?_⟩, h2, h3, h4, h5, mvs _ _ h6⟩
          exact S.dj i j s (.owd ks us) e hs ht hm rfl (by rw [hp, hv, e1, z])
  dj := fun a b s1 t1 hab h1 h2 m1 m2 => by
    have nn : ∀ (c : Nat) (u : Sl), (ρ.set i s')[c]? = some u → u.mine = true → ρ[c]? = some u := fun c u hc m => by
      by_cases e : i = c
      · subst e
        rw [List.getElem?_set_self (List.getElem?_eq_some_iff.mp hs).1] at hc
        cases hc
        rw [hm'] at m
        cases m
      · rw [List.getElem?_set_ne e] at hc
        exact hc
    exact S.dj a b s1 t1 hab (nn _ _ h1 m1) (nn _ _ h2 m2) m1 m2
theorem SR.share {K : PySem.W.Frag} {g : Gm} {H : Hp} {σ : St} {ρ : List Sl} {dr : Dr} (S : SR K ce g H σ ρ dr) (i : Nat) : ∃ g', GN g g' ∧ Kg g H g' H ∧ SR K ce g' H σ (shareS ρ i) dr := by
  unfold shareS
  have go : ∀ (s s' : Sl) (p : Addr), ρ[i]? = some s → s.mine = true → s'.mine = false → (∃ v, σ[i]? = some (some v) ∧ v = .ref p) → Nn (g.H0 p) → ¬ Dl g.L p → SlR K ce { g with A := fun a => g.A a ∧ a ≠ p } H (some (.ref p)) s' → ∃ g', GN g g' ∧ Kg g H g' H ∧ SR K ce g' H σ (ρ.set i s') dr := fun s s' p hs hm hm' ⟨v, hv, ev⟩ h0 hd hr => by
    refine ⟨{ g with A := fun a => g.A a ∧ a ≠ p }, ⟨rfl, rfl, rfl⟩, fun b o n e _ => ⟨e, fun z => n z.1⟩, S.unspare hs hm ?_ h0 hd hr hm'⟩
    rw [List.getD, hv, ev] <;> rfl
  split
  · rename_i l hl
    obtain ⟨v, hv, p, xs, e1, h1, h2, h3, h4, h5, h6⟩ := sl_at S hl (by simp)
    refine go (.own l) _ p hl rfl rfl ⟨v, hv, e1⟩ h3 h2 (Rep.lst ⟨h4, h5, fun z => z.2 rfl⟩ (h6.mono (fun _ _ _ e _ => e) fun b hb => .inl hb.1))
  · exact ⟨g, .refl, .refl, S⟩
def sShare (i : Nat) (s : SS) : SS := fun ρ dr => s (shareS ρ i) dr
theorem ys_share {st : Stmt} {s : SS} (i : Nat) (h : YS X ce W st s) : YS X ce W st (sShare i s) := by
  refine ps_imp h fun D σ H ⟨g, ρ, dr, S, P⟩ => ?_
  obtain ⟨g', n, k, S'⟩ := S.share i
  exact ⟨g', _, dr, S', SP'.move n k P⟩
theorem yss_share {st : List Stmt} {s : SS} (i : Nat) (h : YSs X ce W st s) : YSs X ce W st (sShare i s) := by
  refine pss_imp h fun D σ H ⟨g, ρ, dr, S, P⟩ => ?_
  obtain ⟨g', n, k, S'⟩ := S.share i
  exact ⟨g', _, dr, S', SP'.move n k P⟩
/-- what is not walked -/
def sFailS : SS := fun _ _ => .fail
def sFail : ES := fun _ _ => .fail
theorem ys_fail {st : Stmt} : YS X ce W st sFailS := ⟨fun pins s σ H D I ⟨g, ρ, dr, S, P⟩ => P.elim⟩
theorem yss_fail {st : List Stmt} : YSs X ce W st sFailS := ⟨fun pins s σ H D I ⟨g, ρ, dr, S, P⟩ => P.elim⟩
theorem ye_fail {e : Expr} : YE X ce W e sFail := ⟨fun pins s σ H Q I ⟨g, ρ, dr, S, P⟩ => P.elim⟩

/-! ### writing to an own list -/
theorem SR.write {K : PySem.W.Frag} {g : Gm} {H : Hp} {σ : St} {ρ : List Sl} {dr : Dr} (S : SR K ce g H σ ρ dr) {i : Nat} {s s' : Sl} {p : Addr} {o : HO} (hs : ρ[i]? = some s) (hm : s.mine = true) (hp : σ.getD i none = some (.ref p)) (h0 : Nn (g.H0 p)) (hd : ¬ Dl g.L p) (hA : g.A p)
    (hr : SlR K ce g (upd H p o) (some (.ref p)) s') (hm' : s'.mine = true) (hx : ∀ φ, H p ≠ some (.ext φ)) (hnt : NT o) : SR K ce g (upd H p o) σ (ρ.set i s') dr where
  ext := fun b u e n t => by
    rw [upd_ne fun z => by rw [z] at e; exact h0 u e t]
    exact S.ext b u e n t
  tt := S.tt
  nc := S.nc
  a0 := S.a0
  sub := S.sub
  pl := S.pl
  tr := fun a ha => by
    by_cases e : a = p
    · exact .inr ⟨o, by rw [e, upd_same], hnt⟩
    · rcases S.tr a ha with z | ⟨u, h1, h2⟩
      · exact .inl z
      · exact .inr ⟨u, by rw [upd_ne e]; exact h1, h2⟩
  gk := S.gk.upd hd hx
  len := by rw [List.length_set]; exact S.len
  sl := fun j t ht => by
    by_cases e : i = j
    · subst e
      rw [List.getElem?_set_self (List.getElem?_eq_some_iff.mp hs).1] at ht
      cases ht
      rw [hp]
      exact hr
    · rw [List.getElem?_set_ne e] at ht
      have q := S.sl j t ht
      have far : ∀ b u, ¬ g.A b → H b = some u → NT u → upd H p o b = some u := fun b u n hb _ => by
        rw [upd_ne fun z => n (by rw [z]; exact hA)]
        exact hb
      cases hv : σ.getD j none with
      | none => rw [hv] at q; cases t <;> first | exact q | exact q.elim
      | some v =>
        rw [hv] at q
        cases t with
        | un => exact q
        | val d => exact Rep.mono q far fun b hb => .inl hb
        | own l =>
          obtain ⟨p', xs, e1, h1, h2, h3, h4, h5, h6⟩ := q
          have z : p' ≠ p := fun z => S.dj i j s (.own l) e hs ht hm rfl (by rw [hp, hv, e1, z])
          exact ⟨p', xs, e1, h1, h2, h3, h4, by rw [upd_ne z]; exact h5, h6.mono far fun b hb => .inl hb⟩
        | owd ks us =>
          obtain ⟨p', xs, e1, h1, h2, h3, h4, h5, h6⟩ := q
          have z : p' ≠ p := fun z => S.dj i j s (.owd ks us) e hs ht hm rfl (by rw [hp, hv, e1, z])
          exact ⟨p', xs, e1, h1, h2, h3, h4, by rw [upd_ne z]; exact h5, h6.mono far fun b hb => .inl hb⟩
  dj := fun a b s1 t1 hab h1 h2 m1 m2 => by
    have nn : ∀ (c : Nat) (u : Sl), (ρ.set i s')[c]? = some u → u.mine = true → ∃ u', ρ[c]? = some u' ∧ u'.mine = true := fun c u hc m => by
      by_cases e : i = c
      · subst e
        exact ⟨s, hs, hm⟩
      · rw [List.getElem?_set_ne e] at hc
        exact ⟨u, hc, m⟩
    obtain ⟨u1, k1, k2⟩ := nn _ _ h1 m1
    obtain ⟨u2, k3, k4⟩ := nn _ _ h2 m2
    exact S.dj a b u1 u2 hab k1 k3 k2 k4
/-- what the own list of slot i is, where it stands -/
theorem SR.own_at {K : PySem.W.Frag} {g : Gm} {H : Hp} {σ : St} {ρ : List Sl} {dr : Dr} (S : SR K ce g H σ ρ dr) {i : Nat} {l : List D} (h : ρ[i]? = some (.own l)) : ∃ p xs, σ[i]? = some (some (.ref p)) ∧ xs.length ≤ sizeLine ∧ H p = some (.lst xs) ∧ ¬ Pl g.L p ∧ Reps K ce g.L H g.A xs l ∧
    ∀ l' xs', xs'.length ≤ sizeLine → Reps K ce g.L H g.A xs' l' → SR K ce g (upd H p (.lst xs')) σ (ρ.set i (.own l')) dr ∧ Kg g H g (upd H p (.lst xs')) ∧ ∀ v d, Rep K ce g.L H g.A v d → Rep K ce g.L (upd H p (.lst xs')) g.A v d := by
  obtain ⟨v, hv, p, xs, e1, h1, h2, h3, h4, h5, h6⟩ := sl_at S h (by simp)
  subst e1
  refine ⟨p, xs, hv, h4, h5, fun z => h2 z.dl, h6, fun l' xs' hz R => ?_⟩
  have far : ∀ b u, ¬ g.A b → H b = some u → NT u → upd H p (.lst xs') b = some u := fun b u n hb _ => by
    rw [upd_ne fun z => n (by rw [z]; exact h1)]
    exact hb
  refine ⟨S.write (s := .own l) h rfl (by rw [List.getD, hv] <;> rfl) h3 h2 h1 ⟨p, xs', rfl, h1, h2, h3, hz, upd_same, R.mono far fun b hb => .inl hb⟩ rfl (fun φ z => by rw [h5] at z; cases z) .lst, fun b u n hb t => ⟨far b u n hb t, n⟩, fun v d r => r.mono far fun b hb => .inl hb⟩
def sApp (i : Nat) (e : ES) : SS := fun ρ dr => match ρ[i]? with
  | some (.own l) => (e ρ dr).bind fun d dr1 => if l.length < sizeLine then .ok (.nx (ρ.set i (.own (l ++ [d])))) dr1 else .fail
  | _ => .fail
theorem ys_app (i : Nat) {x : Str} {e : Expr} {ea : ES} {px apos cpos : Pos} (hv : PE X (.Name x px) (tVar i)) (he : YE X ce W e ea)
    (hs : starEach (e :: []) X.env = (false, eval e X.env) :: starEach [] X.env := by rfl)
    (hbase : attributeBase (.Name x px) "append" X.env (eval (.Name x px) X.env) = eval (.Name x px) X.env := by rfl)
    (hfew : ((backTo cpos (starEach (e :: []) X.env)).all (fun x => !x.1) && (backToKw cpos (keywordEach [] X.env)).all (fun x => x.1.isSome)
      && decide ((e :: []).length + ([] : List Keyword).length + (if ([] : List Keyword).isEmpty then 0 else 1) < 30)) = true := by rfl)
    (hline : (apos.endLine == cpos.line) = true := by rfl) (hplain : (backTo cpos (starEach [] X.env)).any (·.1) = false := by rfl)
    (hsw : swapsWith (.Call (.Attribute (.Name x px) "append" apos) [e] [] cpos) none pos.line X.env = pure false := by rfl) :
    YS X ce W (.Expr (.Call (.Attribute (.Name x px) "append" apos) [e] [] cpos) pos) (sApp i ea) := by
  refine ps_imp (ps_expr (pe_bm PySem.F.plainAttrs_list PySem.F.slot_list_append PySem.F.type_list_append (r := rAppend) mt_append hv (pa_cons he pa_nil hs) hbase hfew hline hs hplain) hsw) fun D σ H ⟨g, ρ, dr, S, P⟩ => ?_
  unfold sApp at P
  split at P
  case h_2 => exact P.elim
  case h_1 l hl =>
  obtain ⟨p, xs, e1, h1, h2, h3, h4, k⟩ := S.own_at hl
  refine ⟨_, e1, .inl ⟨rfl, _, .of h2⟩, g, ρ, dr, S, (SP'.post P S).mono fun d dr1 H1 _ E1 S1 P1 v R => ⟨p, xs, v, rfl, rfl, E1 _ _ h2 h3 .lst, ?_, ?_⟩⟩
  · split at P1
    · rename_i hz
      rw [h4.length]
      exact hz
    · exact P1.elim
  · split at P1
    · rename_i hz
      obtain ⟨p', xs', e1', h1', h2', h3', h4', k'⟩ := S1.own_at hl
      rw [e1] at e1'
      cases e1'
      rw [E1 _ _ h2 h3 .lst] at h2'
      cases h2'
      obtain ⟨k1, k2, k3⟩ := k' (l ++ [d]) (xs ++ [v]) (by rw [List.length_append, h4.length]; exact hz) (h4'.append (.cons R .nil))
      exact P1 σ _ g .refl k2 k1
    · exact P1.elim
/-- name = xs.pop() -/
def sPop (j i : Nat) : SS := fun ρ dr => match ρ[i]? with
  | some (.own l) => match l[l.length - 1]? with
    | some d => .ok (.nx ((ρ.set i (.own l.dropLast)).set j (.val d))) dr
    | none => .fail
  | _ => .fail
theorem Reps.dropLast {K : PySem.W.Frag} {L : Lx} {H : Hp} {A : Addr → Prop} {vs : List V} {ds : List D} (r : Reps K ce L H A vs ds) : Reps K ce L H A vs.dropLast ds.dropLast := by
  rw [List.dropLast_eq_take, List.dropLast_eq_take, r.length]
  exact r.take _
theorem ys_pop (j i : Nat) {x y : Str} {px py apos cpos : Pos} (hN : X.N.Nodup) (hj : X.N[j]? = some y) (hy : Loc X.env.scope y) (hv : PE X (.Name x px) (tVar i))
    (hbase : attributeBase (.Name x px) "pop" X.env (eval (.Name x px) X.env) = eval (.Name x px) X.env := by rfl)
    (hline : (apos.endLine == cpos.line) = true := by rfl)
    (hs : swapsWith (.Call (.Attribute (.Name x px) "pop" apos) [] [] cpos) (some (.Name y py)) pos.line X.env = pure false := by rfl)
    (hf : X.fn y = true ∨ X.env.scope.names.lookup y = some .local := by first | exact .inl rfl | exact .inr rfl | assumption) :
    YS X ce W (.Assign [.Name y py] (.Call (.Attribute (.Name x px) "pop" apos) [] [] cpos) pos) (sPop j i) := by
  refine ps_imp (ps_set hN hj hy (pe_bm0 PySem.F.plainAttrs_list PySem.F.slot_list_pop PySem.F.type_list_pop mt_pop hv hbase hline) hs hf) fun D σ H ⟨g, ρ, dr, S, P⟩ => ?_
  unfold sPop at P
  split at P
  case h_2 => exact P.elim
  case h_1 l hl =>
  split at P
  case h_2 => exact P.elim
  case h_1 d hd =>
  obtain ⟨p, xs, e1, h1, h2, h3, h4, k⟩ := S.own_at hl
  obtain ⟨v, hv1, hv2⟩ := h4.get hd
  refine ⟨_, e1, .inl ⟨rfl, _, .of h2⟩, p, xs, v, rfl, rfl, h2, by rw [h4.length]; exact hv1, ?_⟩
  obtain ⟨k1, k2, k3⟩ := k l.dropLast xs.dropLast (by rw [List.length_dropLast]; omega) h4.dropLast
  exact P _ _ g .refl k2 (k1.setVal j (k3 v d hv2))
end
end TP

set_option Elab.async false
set_option linter.all false
set_option maxRecDepth 100000
set_option maxHeartbeats 4000000
/-! TP, part 10: loops, raise, parallel assignment, own lists handed out. -/
namespace TP
open PySem L2

def fGo (b : GS) (body : SS) : List D → List Sl → Dr → Res Fl
  | [], ρ, dr => .ok (.nx ρ) dr
  | x :: xs, ρ, dr => match b x ρ with
    | none => .fail
    | some ρ1 => match body ρ1 dr with
      | .ok (.nx ρ2) dr2 => fGo b body xs ρ2 dr2
      | .ok (.ct ρ2) dr2 => fGo b body xs ρ2 dr2
      | .ok (.bk ρ2) dr2 => .ok (.nx ρ2) dr2
      | r => r
def sFor (it : LS) (b : GS) (body : SS) : SS := fun ρ dr => (it ρ dr).bind fun items dr1 => fGo b body items ρ dr1
def wGo (c : ES) (body : SS) : Nat → List Sl → Dr → Res Fl
  | 0, _, _ => .fail
  | n + 1, ρ, dr => (sT c ρ dr).bind fun k dr1 => if k = true then (match body ρ dr1 with
      | .ok (.nx ρ2) dr2 => wGo c body n ρ2 dr2
      | .ok (.ct ρ2) dr2 => wGo c body n ρ2 dr2
      | .ok (.bk ρ2) dr2 => .ok (.nx ρ2) dr2
      | r => r) else .ok (.nx ρ) dr1
/-- fuel n -/
def sWhile (n : List Sl → Dr → Nat) (c : ES) (body : SS) : SS := fun ρ dr => wGo c body (n ρ dr) ρ dr
def sRaise (x : Ex) : SS := fun _ dr => .exc x dr
section
variable {X : Cx} {ce : Ce} {W : WX} {pos : Pos}
theorem ys_for {tg iter : Expr} {bd : List Stmt} {it : LS} {b : GS} {body : SS} {t : TG} {vs : List Nat} (hp : PassesOwn (model X.prog X.w) X.A X.env X.xe) (hc : X.calm = true) (hi : YI X ce W false tg iter it) (hg : PG X tg t) (hs : GSm X.K ce t b vs) (hb : YSs X ce W bd body)
    (hf : ∀ x, foldedSetIterable iter X.env x = pure x := by intro _; rfl) : YS X ce W (.For tg iter bd [] pos) (sFor it b body) := by
  obtain ⟨wi, hi, hi'⟩ := hi
  refine ps_imp (ps_for hp hc hi hg hb hf) fun D σ H ⟨g, ρ, dr, S, P⟩ => ?_
  refine hi' σ H _ g ρ dr S ((SP'.post P S).mono fun items dr1 H1 _ E1 S1 P1 J hJ => ?_)
  refine ⟨fun i m σ H => m = items.length - i ∧ i ≤ items.length ∧ ∃ g' ρ dr, GN g g' ∧ Kg g H1 g' H ∧ SR X.K ce g' H σ ρ dr ∧ SP' X.K ce W g' H (fGo b body (items.drop i) ρ dr) D, ⟨_, rfl, Nat.zero_le _, g, ρ, dr1, .refl, .refl, S1, by rw [List.drop_zero]; exact P1⟩, ?_⟩
  rintro i m σ2 H2 ⟨rfl, hi2, g2, ρ2, dr2, n2, k2, S2, P2⟩
  have kp : Kp g.A g.A H1 g2.A H2 := ⟨fun b o n e t => (k2 b o n e t).1, fun b o n e t => (k2 b o n e t).2, S2.trn⟩
  obtain ⟨go, stop⟩ := hJ i H2 _ kp
  by_cases hlt : i < items.length
  · obtain ⟨g1, gy⟩ := go hlt
    have e1 : items.drop i = items[i] :: items.drop (i + 1) := List.drop_eq_getElem_cons hlt
    rw [e1] at P2
    refine .inr ⟨g1, fun σ H => ∃ m', m' < items.length - i ∧ m' = items.length - (i + 1) ∧ i + 1 ≤ items.length ∧ ∃ g' ρ dr, GN g g' ∧ Kg g H1 g' H ∧ SR X.K ce g' H σ ρ dr ∧ SP' X.K ce W g' H (fGo b body (items.drop (i + 1)) ρ dr) D, fun σ' H' h => h, fun x H3 y => ?_⟩
    obtain ⟨sm, d, hd, rd⟩ := gy x H3 y
    rw [← n2.L] at rd
    have ed : items[i] = d := (List.getElem?_eq_some_iff.mp hd).2
    rw [ed] at P2
    have S3 := S2.step (dr' := dr2) (fun b o e _ _ => sm b o e) (S2.gk.keep sm)
    have k3 : Kg g2 H2 g2 H3 := fun b o n e _ => ⟨sm b o e, n⟩
    have P3 := SP'.move .refl k3 P2
    unfold fGo at P3
    cases hbd : b d ρ2 with
    | none =>
      simp only [hbd] at P3
      exact P3.elim
    | some ρ3 =>
      simp only [hbd] at P3
      refine hs g2 σ2 ρ2 dr2 H3 x d ρ3 _ S3 rd hbd fun σ4 S4 _ => ⟨g2, ρ3, dr2, S4, ?_⟩
      have again : ∀ ρ5 dr5, SP' X.K ce W g2 H3 (fGo b body (items.drop (i + 1)) ρ5 dr5) D → ∀ σ' H' g', GN g2 g' → Kg g2 H3 g' H' → SR X.K ce g' H' σ' ρ5 dr5 → ∃ m', m' < items.length - i ∧ m' = items.length - (i + 1) ∧ i + 1 ≤ items.length ∧ ∃ g' ρ dr, GN g g' ∧ Kg g H1 g' H' ∧ SR X.K ce g' H' σ' ρ dr ∧ SP' X.K ce W g' H' (fGo b body (items.drop (i + 1)) ρ dr) D :=
        fun ρ5 dr5 P5 σ' H' g' n k S' => ⟨_, by omega, rfl, hlt, g', ρ5, dr5, n2.trans n, (k2.trans k3).trans k, S', SP'.move n k P5⟩
      cases hr : body ρ3 dr2 with
      | fail => simp only [hr] at P3; exact P3.elim
      | exc xx dd => simp only [hr] at P3; exact P3
      | ok f dr3 =>
        cases f with
        | nx ρ5 => simp only [hr] at P3; exact again ρ5 dr3 P3
        | ct ρ5 => simp only [hr] at P3; exact again ρ5 dr3 P3
        | bk ρ5 => simp only [hr] at P3; exact P3
        | rt d5 => simp only [hr] at P3; exact P3
  · have hi3 : i = items.length := by omega
    refine .inl ⟨stop hi3, ?_⟩
    rw [hi3, List.drop_length] at P2
    exact P2 σ2 H2 g2 .refl .refl S2
theorem ys_while {c : Expr} {bd : List Stmt} {ec : ES} {body : SS} (n : List Sl → Dr → Nat) (hp : PassesOwn (model X.prog X.w) X.A X.env X.xe) (hc : YT X ce W c (sT ec)) (hb : YSs X ce W bd body) : YS X ce W (.While c bd [] pos) (sWhile n ec body) := by
  refine ps_imp (ps_while hp hc hb) fun D σ H ⟨g, ρ, dr, S, P⟩ => ?_
  refine ⟨fun m σ H => ∃ g' ρ dr, SR X.K ce g' H σ ρ dr ∧ SP' X.K ce W g' H (wGo ec body m ρ dr) D, ⟨_, g, ρ, dr, S, P⟩, ?_⟩
  rintro m σ2 H2 ⟨g2, ρ2, dr2, S2, P2⟩
  cases m with
  | zero => exact P2.elim
  | succ m =>
    refine ⟨g2, ρ2, dr2, S2, (SP'.post (k := fun k dr1 => if k = true then (match body ρ2 dr1 with
      | .ok (.nx ρ2) dr2 => wGo ec body m ρ2 dr2
      | .ok (.ct ρ2) dr2 => wGo ec body m ρ2 dr2
      | .ok (.bk ρ2) dr2 => .ok (.nx ρ2) dr2
      | r => r) else .ok (.nx ρ2) dr1) P2 S2).mono fun k dr3 H3 _ E3 S3 P3 => ?_⟩
    cases k with
    | false => exact iteF (P3 σ2 H3 g2 .refl .refl S3)
    | true =>
      refine iteT ⟨fun σ H => ∃ m', m' < m + 1 ∧ ∃ g' ρ dr, SR X.K ce g' H σ ρ dr ∧ SP' X.K ce W g' H (wGo ec body m' ρ dr) D, fun σ' H' h => h, g2, ρ2, dr3, S3, ?_⟩
      have P4 : SP' X.K ce W g2 H3 (match body ρ2 dr3 with
      | .ok (.nx ρ2) dr2 => wGo ec body m ρ2 dr2
      | .ok (.ct ρ2) dr2 => wGo ec body m ρ2 dr2
      | .ok (.bk ρ2) dr2 => .ok (.nx ρ2) dr2
      | r => r) D := P3
      have again : ∀ ρ5 dr5, SP' X.K ce W g2 H3 (wGo ec body m ρ5 dr5) D → ∀ σ' H' g', GN g2 g' → Kg g2 H3 g' H' → SR X.K ce g' H' σ' ρ5 dr5 → ∃ m', m' < m + 1 ∧ ∃ g' ρ dr, SR X.K ce g' H' σ' ρ dr ∧ SP' X.K ce W g' H' (wGo ec body m' ρ dr) D :=
        fun ρ5 dr5 P5 σ' H' g' n k S' => ⟨m, Nat.lt_succ_self m, g', ρ5, dr5, S', SP'.move n k P5⟩
      cases hr : body ρ2 dr3 with
      | fail => simp only [hr] at P4; exact P4.elim
      | exc xx dd => simp only [hr] at P4; exact P4
      | ok f dr3 =>
        cases f with
        | nx ρ5 => simp only [hr] at P4; exact again ρ5 dr3 P4
        | ct ρ5 => simp only [hr] at P4; exact again ρ5 dr3 P4
        | bk ρ5 => simp only [hr] at P4; exact P4
        | rt d5 => simp only [hr] at P4; exact P4
theorem ys_break : YS X ce W (.Break pos) (fun ρ dr => .ok (.bk ρ) dr) := ps_imp ps_break fun D σ H ⟨g, ρ, dr, S, P⟩ => P σ H g .refl .refl S
theorem ys_continue : YS X ce W (.Continue pos) (fun ρ dr => .ok (.ct ρ) dr) := ps_imp ps_continue fun D σ H ⟨g, ρ, dr, S, P⟩ => P σ H g .refl .refl S
/-- raise X('..') -/
theorem ys_raise {x m : Str} {c j : Nat} {p p2 pos' : Pos} {bmB : List Value} {B newId initId : String} (hc : X.calm = true) (tk : Takes X W) (F : ExcBaseFacts B newId initId bmB) (q : PySem.W.excIn X.K (ce.cls c) bmB newId = true) (gC : X.mg x = some (.ref (ce.cls c)))
    (kC : PySem.W.keepIn X.K (.ref (ce.cls c)) = true) (r : Raises X (.ref (ce.cls c))) (hg : Gl X x := by rfl) (hdb : (x == ("__debug__" : Str)) = false := by decide) : YS X ce W (.Raise (some (.Call (.Name x p) [.Constant (.str m) j p2] [] pos')) none pos) (sRaise ⟨c, [], []⟩) :=
  ps_imp (ps_raise hc tk (pmk_own F q gC kC r hg hdb)) fun D σ H ⟨g, ρ, dr, S, P⟩ => P σ (.ref (ce.cls c)) none H S.ext S.gk ⟨rfl, .inl ⟨rfl, rfl, rfl⟩⟩

/-! ### the call's own list is what it returns -/
def sRetO (i : Nat) : SS := sShare i (sRet (sVar i))
theorem ys_retO (i : Nat) {x : Str} {px : Pos} (h : PE X (.Name x px) (tVar i)) : YS X ce W (.Return (some (.Name x px)) pos) (sRetO i) := ys_share i (ys_ret (ye_var i h))

/-! ### a, b = x, y -/
abbrev ZSs := List Sl → Dr → Res (List Sl)
def sPar (is : List Nat) (z : ZSs) : SS := fun ρ dr => (z ρ dr).bind fun ss dr1 => .ok (.nx ((is.zip ss).foldl (fun ρ p => ρ.set p.1 p.2) ρ)) dr1
def zNil : ZSs := fun _ dr => .ok [] dr
def zCons (a : ZS) (b : ZSs) : ZSs := fun ρ dr => (a ρ dr).bind fun s dr1 => (b ρ dr1).bind fun ss dr2 => .ok (s :: ss) dr2
/-- the slots told anew -/
theorem SR.re {K : PySem.W.Frag} {g : Gm} {H : Hp} {σ σ' : St} {ρ ρ' : List Sl} {dr : Dr} (S : SR K ce g H σ ρ dr) (f : Nat → Nat) (hl : ρ'.length = σ'.length) (inj : ∀ a b, a < ρ'.length → b < ρ'.length → f a = f b → a = b)
    (h : ∀ j s, ρ'[j]? = some s → ρ[f j]? = some s ∧ σ'.getD j none = σ.getD (f j) none) : SR K ce g H σ' ρ' dr where
  ext := S.ext
  tt := S.tt
  nc := S.nc
  a0 := S.a0
  sub := S.sub
  pl := S.pl
  tr := S.tr
  gk := S.gk
  len := hl
  sl := fun j s hs => by
    obtain ⟨h1, h2⟩ := h j s hs
    rw [h2]
    exact S.sl _ s h1
  dj := fun i j s t n hi hj m1 m2 => by
    obtain ⟨h1, h2⟩ := h i s hi
    obtain ⟨h3, h4⟩ := h j t hj
    rw [h2, h4]
    exact S.dj _ _ s t (fun z => n (inj _ _ (List.getElem?_eq_some_iff.mp hi).1 (List.getElem?_eq_some_iff.mp hj).1 z)) h1 h3 m1 m2
theorem SR.push {K : PySem.W.Frag} {g : Gm} {H : Hp} {σ : St} {ρ : List Sl} {dr : Dr} (S : SR K ce g H σ ρ dr) {v : V} {s : Sl} (h : SlR K ce g H (some v) s) (n : s.mine = true → ∀ j t, ρ[j]? = some t → t.mine = true → σ.getD j none ≠ some v) : SR K ce g H (σ ++ [some v]) (ρ ++ [s]) dr where
  ext := S.ext
  tt := S.tt
  nc := S.nc
  a0 := S.a0
  sub := S.sub
  pl := S.pl
  tr := S.tr
  gk := S.gk
  len := by rw [List.length_append, List.length_append, S.len]; rfl
  sl := fun j t ht => by
    by_cases hj : j < ρ.length
    · rw [List.getElem?_append_left hj] at ht
      rw [List.getD, List.getElem?_append_left (by rw [← S.len]; exact hj)]
      exact S.sl j t ht
    · rw [List.getElem?_append_right (by omega)] at ht
      have hz : j - ρ.length = 0 := by
        cases e : j - ρ.length with
        | zero => rfl
        | succ n => rw [e] at ht; simp at ht
      rw [hz] at ht
      cases ht
      rw [List.getD, List.getElem?_append_right (by rw [← S.len]; omega), ← S.len, hz]
      exact h
  dj := by
    have at_ : ∀ (j : Nat) (t : Sl), (ρ ++ [s])[j]? = some t → (j < ρ.length ∧ ρ[j]? = some t ∧ (σ ++ [some v]).getD j none = σ.getD j none) ∨ (j = ρ.length ∧ t = s ∧ (σ ++ [some v]).getD j none = some v) := fun j t ht => by
      by_cases hj : j < ρ.length
      · rw [List.getElem?_append_left hj] at ht
        exact .inl ⟨hj, ht, by rw [List.getD, List.getElem?_append_left (by rw [← S.len]; exact hj)] <;> rfl⟩
      · rw [List.getElem?_append_right (by omega)] at ht
        have hz : j - ρ.length = 0 := by
          cases e : j - ρ.length with
          | zero => rfl
          | succ n => rw [e] at ht; simp at ht
        rw [hz] at ht
        cases ht
        exact .inr ⟨by omega, rfl, by rw [List.getD, List.getElem?_append_right (by rw [← S.len]; omega), ← S.len, hz] <;> rfl⟩
    intro i j a b nij ha hb ma mb
    rcases at_ i a ha with ⟨_, h1, h2⟩ | ⟨h1, h2, h3⟩ <;> rcases at_ j b hb with ⟨_, k1, k2⟩ | ⟨k1, k2, k3⟩
    · rw [h2, k2]; exact S.dj i j a b nij h1 k1 ma mb
    · rw [h2, k3]; subst k2; exact n mb i a h1 ma
    · rw [h3, k2]; subst h2; exact fun z => n ma j b k1 mb z.symm
    · exact absurd (h1.trans k1.symm) nij
/-- σe: what stands ready to be stored -/
def tZs (K : PySem.W.Frag) (ce : Ce) (W : WX) (z : ZSs) : TA := fun σ H Q => ∃ (g : Gm) (ρ : List Sl) (dr : Dr) (σe : St) (ρe : List Sl), ρ.length = σ.length ∧ SR K ce g H (σ ++ σe) (ρ ++ ρe) dr ∧ match z ρ dr with
  | .ok ss dr' => ∀ H' g' vs, GN g g' → Kg g H g' H' → vs.length = ss.length → SR K ce g' H' (σ ++ (σe ++ vs.map some)) (ρ ++ (ρe ++ ss)) dr' → Q vs H'
  | .exc x dr' => ∀ c dd H', Ext g.L g.H0 H' → GOk K H' g.L dr' → ExcR K ce g.L H' g.A0 c dd x → W c dd σ H'
  | .fail => False
abbrev YZs (X : Cx) (ce : Ce) (W : WX) (es : List Expr) (z : ZSs) : Prop := PA X es (tZs X.K ce W z)
theorem yzs_nil : YZs X ce W [] zNil := pa_imp pa_nil fun σ H Q ⟨g, ρ, dr, σe, ρe, hl, S, P⟩ => P H g [] .refl .refl rfl (by simpa using S)
theorem SR.front {K : PySem.W.Frag} {g : Gm} {H : Hp} {σ σe : St} {ρ ρe : List Sl} {dr : Dr} (S : SR K ce g H (σ ++ σe) (ρ ++ ρe) dr) (hl : ρ.length = σ.length) : SR K ce g H σ ρ dr :=
  S.re id hl (fun _ _ _ _ h => h) fun j s hs => by
    have hj := (List.getElem?_eq_some_iff.mp hs).1
    refine ⟨by rw [id, List.getElem?_append_left hj]; exact hs, ?_⟩
    rw [id, List.getD, List.getD, List.getElem?_append_left (by rw [← hl]; exact hj)]
theorem yzs_cons {a : Expr} {es : List Expr} {za : ZS} {zb : ZSs} (ya : YZ X ce W a za) (yb : YZs X ce W es zb) (hs : starEach (a :: es) X.env = (false, eval a X.env) :: starEach es X.env := by rfl) : YZs X ce W (a :: es) (zCons za zb) := by
  refine pa_imp (pa_cons ya yb hs) fun σ H Q ⟨g, ρ, dr, σe, ρe, hl, T, P⟩ => ?_
  have S := T.front hl
  unfold zCons at P
  refine ⟨g, ρ, dr, S, ?_⟩
  cases ha : za ρ dr with
  | fail =>
    simp only [ha, Res.bind] at P
  | exc x dr1 =>
    simp only [ha, Res.bind] at P
    exact fun H' c dd e S1 Xr => P c dd H' (S.ext.trans e) S1.gk (Xr.mono (fun _ _ _ q _ => q) fun b q => .inl (S.sub b q))
  | ok s dr1 =>
    simp only [ha, Res.bind] at P
    intro H1 E1 S1 v N
    obtain ⟨k1, k2, k3, k4⟩ := N.add T E1 S1.gk
    have T1 := k1.push k2 k4
    rw [List.append_assoc, List.append_assoc] at T1
    refine ⟨gAdd g v s, ρ, dr1, σe ++ [some v], ρe ++ [s], hl, T1, ?_⟩
    cases hb : zb ρ dr1 with
    | fail => simp only [hb] at P
    | exc x dr2 =>
      simp only [hb] at P
      intro c dd H' e q r
      have n := gAdd_gn (g := g) (v := v) (s := s)
      rw [n.L] at e q r
      rw [n.H0] at e
      rw [n.A0] at r
      exact P c dd H' e q r
    | ok ss dr2 =>
      simp only [hb] at P
      intro H' g' vs n k hv T'
      refine P H' g' (v :: vs) (gAdd_gn.trans n) (k3.trans k) (by rw [List.length_cons, List.length_cons, hv]) ?_
      simpa [List.append_assoc] using T'
def at2 (i j l : Nat) : Nat → Nat := fun n => if n = i then l else if n = j then l + 1 else n
theorem par2_run {K : PySem.W.Frag} {i j : Nat} {z : ZSs} (hi : i ≠ j) (D : Ends) (σ : St) (H : Hp) (hz : ∀ ρ dr ss dr', z ρ dr = .ok ss dr' → ss.length = 2) (hI : i < σ.length) (hJ : j < σ.length) (h : tS K ce W (sPar [i, j] z) D σ H) : tPar i j (tZs K ce W z) D σ H := by
  obtain ⟨g, ρ, dr, S, P⟩ := h
  refine ⟨g, ρ, dr, [], [], S.len, by simpa using S, ?_⟩
  unfold sPar at P
  cases hr : z ρ dr with
  | fail => simp only [hr, Res.bind] at P; exact P
  | exc x dr1 => simp only [hr, Res.bind] at P; exact fun c dd H' e q r => P σ c dd H' e q r
  | ok ss dr1 =>
    simp only [hr, Res.bind] at P
    intro H' g' vs n k hv T
    have h2 := hz _ _ _ _ hr
    match ss, vs, h2, hv with
    | [s1, s2], [v1, v2], _, _ =>
    refine ⟨v1, v2, rfl, P _ H' g' n k ?_⟩
    have hlen := S.len
    refine T.re (at2 i j ρ.length) (by simp [hlen]) ?_ ?_
    · intro a b ha hb e
      simp only [List.zip_cons_cons, List.zip_nil_right, List.foldl_cons, List.foldl_nil, List.length_set] at ha hb
      unfold at2 at e
      split at e <;> split at e <;> (try split at e) <;> (try split at e) <;> omega
    · intro m s hs
      simp only [List.zip_cons_cons, List.zip_nil_right, List.foldl_cons, List.foldl_nil] at hs
      unfold at2
      by_cases e2 : m = j
      · subst e2
        rw [List.getElem?_set_self (by rw [List.length_set]; omega)] at hs
        cases hs
        rw [if_neg (Ne.symm hi), if_pos rfl]
        refine ⟨by rw [List.getElem?_append_right (by omega)]; simp, ?_⟩
        rw [List.getD, List.getElem?_set_self (by rw [List.length_set]; exact hJ), List.getD, List.getElem?_append_right (by omega), ← hlen]
        simp
      · rw [List.getElem?_set_ne (Ne.symm e2)] at hs
        by_cases e1 : m = i
        · subst e1
          rw [List.getElem?_set_self (by omega)] at hs
          cases hs
          rw [if_pos rfl]
          refine ⟨by rw [List.getElem?_append_right (by omega)]; simp, ?_⟩
          rw [List.getD, List.getElem?_set_ne (Ne.symm e2), List.getElem?_set_self hI, List.getD, List.getElem?_append_right (by omega), ← hlen]
          simp
        · rw [List.getElem?_set_ne (Ne.symm e1)] at hs
          have hm := (List.getElem?_eq_some_iff.mp hs).1
          rw [if_neg e1, if_neg e2]
          refine ⟨by rw [List.getElem?_append_left hm]; exact hs, ?_⟩
          rw [List.getD, List.getElem?_set_ne (Ne.symm e2), List.getElem?_set_ne (Ne.symm e1), List.getD, List.getElem?_append_left (by omega)]
theorem z2_len {za zb : ZS} : ∀ ρ dr ss dr', zCons za (zCons zb zNil) ρ dr = .ok ss dr' → ss.length = 2 := fun ρ dr ss dr' h => by
  unfold zCons zNil at h
  cases ha : za ρ dr with
  | ok a d1 =>
    simp only [ha, Res.bind] at h
    cases hb : zb ρ d1 with
    | ok b d2 =>
      simp only [hb] at h
      cases h
      rfl
    | exc _ _ => simp only [hb] at h; cases h
    | fail => simp only [hb] at h; cases h
  | exc _ _ => simp only [ha, Res.bind] at h; cases h
  | fail => simp only [ha, Res.bind] at h; cases h
theorem ys_par {i j : Nat} {x y : Str} {a b : Expr} {za zb : ZS} {px py pt pos2 : Pos} {kt k2} (hc : X.calm = true) (hN : X.N.Nodup) (hi : X.N[i]? = some x) (hj : X.N[j]? = some y) (hij : i ≠ j)
    (hx : X.env.scope.names.lookup x = some .local) (hy : X.env.scope.names.lookup y = some .local) (ya : YZ X ce W a za) (yb : YZ X ce W b zb)
    (hw : swappedStores [.Tuple [.Name x px, .Name y py] kt pt] (.Tuple [a, b] k2 pos2) X.env = pure (some [x, y]))
    (hs : swapsWithSole [.Tuple [.Name x px, .Name y py] kt pt] (.Tuple [a, b] k2 pos2) pos.line X.env = pure false := by rfl)
    (h1 : starEach (a :: [b]) X.env = (false, eval a X.env) :: starEach [b] X.env := by rfl) (h2 : starEach (b :: []) X.env = (false, eval b X.env) :: starEach [] X.env := by rfl) :
    YS X ce W (.Assign [.Tuple [.Name x px, .Name y py] kt pt] (.Tuple [a, b] k2 pos2) pos) (sPar [i, j] (zCons za (zCons zb zNil))) :=
  ⟨fun pins s σ H D I h => (ps_par hc hN hi hj hij hx hy (yzs_cons ya (yzs_cons yb yzs_nil h2) h1) hw hs).run pins s σ H D I
    (par2_run hij D σ H z2_len (by rw [I.len]; exact (List.getElem?_eq_some_iff.mp hi).1) (by rw [I.len]; exact (List.getElem?_eq_some_iff.mp hj).1) h)⟩
end
end TP

set_option Elab.async false
set_option linter.all false
set_option maxRecDepth 100000
set_option maxHeartbeats 4000000
/-! TP, part 11: defs and their calls. -/
namespace TP
open PySem L2

abbrev FS := List D → Dr → Res D
/-- the promise of a def that computes h (n parameters; T: the tables of code objects) -/
def spD (K : PySem.W.Frag) (ce : Ce) (n : Nat) (h : FS) : Sp := fun vs H Q E => vs.length = n ∧ ∃ (L : Lx) (A : Addr → Prop) (ds : List D) (dr : Dr), L.T = ce.T ∧ Reps K ce L H A vs ds ∧ (∀ a, A a → Pl L a ∨ ∃ o, H a = some o ∧ NT o) ∧ (∀ a, Pl L a → A a) ∧ (∀ lo, L.lo = some lo → ¬ A lo.cl) ∧ GOk K H L dr ∧ match h ds dr with
  | .ok d dr' => ∀ v H', Ext L H H' → GOk K H' L dr' → Rep K ce L H' A v d → Q v H'
  | .exc x dr' => ∀ c dd H', Ext L H H' → GOk K H' L dr' → ExcR K ce L H' A c dd x → E c dd H'
  | .fail => False
/-- what a def computes whose body is b, over n slots -/
def fD (n : Nat) (b : SS) : FS := fun ds dr => match b (ds.map Sl.val ++ List.replicate (n - ds.length) .un) dr with
  | .ok (.rt d) dr' => .ok d dr'
  | .ok (.nx _) dr' => .ok .non dr'
  | .ok _ _ => .fail
  | .exc x dr' => .exc x dr'
  | .fail => .fail
/-- the def stands in the text under the name nm, its code object is cd -/
structure Tx (K : PySem.W.Frag) (mg : Str → Option Value) (nm q : Str) (st : Stmt) (cd : Value) : Prop where
  ex : ∃ (f : Addr) (oc : Value) (od : Option Addr) (kV doc pm : Value) (an : Option Addr) (ct : Value) (osl : Array (Option Value)), mg nm = some (.ref f) ∧
    K.lookup f = some ⟨oc, od, .func (PySem.W.fnOf q q (defArgs st) (defBody st) (defScope st) .none kV doc pm an cd ct), osl⟩ ∧ PySem.W.codeIn K cd q = true ∧ PySem.W.keepIn K (.ref f) = true
/-- the def of that name computes h -/
structure Df (P : Program) (w : World) (K : PySem.W.Frag) (mg : Str → Option Value) (base : Heap) (ce : Ce) (nm q : Str) (st : Stmt) (ps : List Str) (k : Nat) (h : FS) : Prop where
  ex : ∃ (f : Addr) (fd : FuncData), mg nm = some (.ref f) ∧ Fun K q q st f fd ∧ Binds K fd ps [] ∧ FnOk P w K mg base (L2.CX P w) k f fd ps (spD K ce ps.length h)
section
variable {P : Program} {w : World} {K : PySem.W.Frag} {mg : Str → Option Value} {base : Heap} {ce : Ce} {nm q : Str} {st : Stmt} {n k : Nat} {h : FS}
/-- the context of a def's body -/
abbrev Xf (P : Program) (w : World) (K : PySem.W.Frag) (mg : Str → Option Value) (base : Heap) (N : List Str) (q : Str) (st : Stmt) (f : Addr) (cdv : Value) (A : Around) (outer : List Env) (s : Shared) (H : Hp) (E : XK) : Cx :=
  cxOf (L2.CX P w) P w K mg base N q (defScope st) f cdv A outer s H E
theorem SR.start0 {L : Lx} {A : Addr → Prop} {N : List Str} {vs : List V} {ds : List D} {dr : Dr} {H : Hp} (hT : L.T = ce.T) (r : Reps K ce L H A vs ds) (hA : ∀ a, A a → Pl L a ∨ ∃ o, H a = some o ∧ NT o) (hP : ∀ a, Pl L a → A a) (hC : ∀ lo, L.lo = some lo → ¬ A lo.cl) (q : GOk K H L dr) : SR K ce ⟨L, H, A, A⟩ H (L2.start N vs) (ds.map Sl.val ++ List.replicate (N.length - ds.length) .un) dr where
  ext := .refl
  tt := hT
  nc := hC
  a0 := hA
  sub := fun _ h => h
  pl := hP
  tr := hA
  gk := q
  len := by
    unfold L2.start
    simp only [List.length_append, List.length_map, List.length_replicate, r.length]
  sl := fun i s hs => by
    unfold L2.start
    by_cases hi : i < ds.length
    · rw [List.getElem?_append_left (by rw [List.length_map]; exact hi), List.getElem?_map] at hs
      cases hd : ds[i]? with
      | none => rw [hd] at hs; cases hs
      | some d =>
        rw [hd] at hs
        cases hs
        obtain ⟨v, hv, rv⟩ := r.get hd
        rw [List.getD, List.getElem?_append_left (by rw [List.length_map, r.length]; exact hi), List.getElem?_map, hv]
        exact rv
    · rw [List.getElem?_append_right (by rw [List.length_map]; omega)] at hs
      have := List.getElem?_eq_some_iff.mp hs
      obtain ⟨h1, h2⟩ := this
      rw [List.getElem_replicate] at h2
      subst h2
      cases hv : (vs.map some ++ List.replicate (N.length - vs.length) none).getD i none with
      | none => trivial
      | some v => trivial
  dj := fun i j s t n hi hj m1 m2 => by
    have no : ∀ (i : Nat) (s : Sl), (ds.map Sl.val ++ List.replicate (N.length - ds.length) Sl.un)[i]? = some s → s.mine = false := fun i s hs => by
      have hm := List.mem_of_getElem? hs
      rcases List.mem_append.mp hm with z | z
      · obtain ⟨d, _, e⟩ := List.mem_map.mp z
        rw [← e]
        rfl
      · rw [(List.mem_replicate.mp z).2]
        rfl
    rw [no i s hi] at m1
    cases m1
theorem FnOk.ofD {f : Addr} {oc : Value} {od : Option Addr} {kV doc pm cd ct : Value} {an : Option Addr} {osl : Array (Option Value)} {N ps : List Str} {b : SS} (lk : K.lookup f = some ⟨oc, od, .func (PySem.W.fnOf q q (defArgs st) (defBody st) (defScope st) .none kV doc pm an cd ct), osl⟩)
    (hcd : PySem.W.codeIn K cd q = true) (S : FnScope N ps (defScope st))
    (hb : ∀ (A : Around) (outer : List Env) (s : Shared) (H : Hp) (E : XK), Cn (Xf P w K mg base N q st f cd A outer s H E) (fun cls d _ H => E cls d H) k → Takes (Xf P w K mg base N q st f cd A outer s H E) (fun cls d _ H => E cls d H) →
      YSs (Xf P w K mg base N q st f cd A outer s H E) ce (fun cls d _ H => E cls d H) (defBody st) b) : FnOk P w K mg base (L2.CX P w) (k + 1) f (PySem.W.fnOf q q (defArgs st) (defBody st) (defScope st) .none kV doc pm an cd ct) ps (spD K ce ps.length (fD N.length b)) := by
  refine fn_of lk hcd S (fun vs H Q E h => h.1) fun A outer s H vs Q E hr h => ?_
  have tk : Takes (Xf P w K mg base N q st f cd A outer s H E) (fun cls d _ H => E cls d H) := takes_of rfl rfl rfl rfl
  have c : Cn (Xf P w K mg base N q st f cd A outer s H E) (fun cls d _ H => E cls d H) k := ⟨⟨rfl, by
    have := hr.un
    show (A.deeper _).units + 65 < cLine
    omega, S.nd⟩, fun σ => passAt tk σ, hr, passes_of rfl⟩
  refine ⟨_, hb A outer s H E c tk, ?_⟩
  obtain ⟨hl, L, A', ds, dr, hT, R, hA, hP, hC, hq, hm⟩ := h
  refine ⟨⟨L, H, A', A'⟩, _, dr, SR.start0 (N := N) hT R hA hP hC hq, ?_⟩
  unfold fD at hm
  generalize he : b (ds.map Sl.val ++ List.replicate (N.length - ds.length) .un) dr = r at hm ⊢
  cases r with
  | fail => exact hm
  | exc x dr' => exact fun σ' c dd H' e q r => hm c dd H' e q r
  | ok fl dr' =>
    cases fl with
    | rt d => exact hm
    | nx ρ => exact fun σ' H' g' n1 k1 S' => hm .non H' (by have := S'.ext; rw [n1.L, n1.H0] at this; exact this) (by have := S'.gk; rw [n1.L] at this; exact this) .non
    | bk ρ => exact hm.elim
    | ct ρ => exact hm.elim
theorem Tx.fun {cd : Value} (t : Tx K mg nm q st cd) : ∃ f fd, mg nm = some (.ref f) ∧ Fun K q q st f fd := by
  obtain ⟨f, oc, od, kV, doc, pm, an, ct, osl, h1, h2, h3, h4⟩ := t.ex
  exact ⟨f, _, h1, fun_mk h2 h3 h4⟩
theorem Tx.df {cd : Value} {N ps : List Str} {b : SS} (t : Tx K mg nm q st cd) (S : FnScope N ps (defScope st))
    (hbd : ∀ (kV doc pm : Value) (an : Option Addr) (cdv ct : Value) (us : List Value), us.length = ps.length → bindArgs (PySem.W.fnOf q q (defArgs st) (defBody st) (defScope st) .none kV doc pm an cdv ct) ⟨us, []⟩ = pure (ps.zip us))
    (hb : ∀ (f : Addr) (A : Around) (outer : List Env) (s : Shared) (H : Hp) (E : XK), Cn (Xf P w K mg base N q st f cd A outer s H E) (fun cls d _ H => E cls d H) k → Takes (Xf P w K mg base N q st f cd A outer s H E) (fun cls d _ H => E cls d H) →
      YSs (Xf P w K mg base N q st f cd A outer s H E) ce (fun cls d _ H => E cls d H) (defBody st) b) : Df P w K mg base ce nm q st ps (k + 1) (fD N.length b) := by
  obtain ⟨f, oc, od, kV, doc, pm, an, ct, osl, h1, h2, h3, h4⟩ := t.ex
  exact ⟨f, _, h1, fun_mk h2 h3 h4, (fun_mk h2 h3 h4).binds hbd, FnOk.ofD h2 h3 S (hb f)⟩
end
/-- f(..), f a def of the program's -/
def sCallF (h : FS) (a : LS) : ES := fun ρ dr => (a ρ dr).bind fun ds dr1 => h ds dr1
def LenA (la : LS) (n : Nat) : Prop := ∀ ρ dr ds dr', la ρ dr = .ok ds dr' → ds.length = n
theorem len_nil : LenA sNil 0 := fun _ _ _ _ h => by cases h; rfl
theorem len_cons {a : ES} {la : LS} {n : Nat} (h : LenA la n) : LenA (sCons a la) (n + 1) := fun ρ dr ds dr' e => by
  unfold sCons at e
  cases ha : a ρ dr with
  | ok d d1 =>
    simp only [ha, Res.bind] at e
    cases hb : la ρ d1 with
    | ok l d2 =>
      simp only [hb] at e
      cases e
      rw [List.length_cons, h _ _ _ _ hb]
    | exc _ _ => simp only [hb] at e; cases e
    | fail => simp only [hb] at e; cases e
  | exc _ _ => simp only [ha, Res.bind] at e; cases e
  | fail => simp only [ha, Res.bind] at e; cases e
/-- the keywords' values, put in the parameters' order -/
def sPick (js : List Nat) (a : LS) : LS := fun ρ dr => (a ρ dr).bind fun ds dr1 => .ok (js.map fun j => ds.getD j .non) dr1
theorem len_pick {a : LS} {js : List Nat} : LenA (sPick js a) js.length := fun ρ dr ds dr' e => by
  unfold sPick at e
  cases ha : a ρ dr with
  | ok d d1 =>
    simp only [ha, Res.bind] at e
    cases e
    rw [List.length_map]
  | exc _ _ => simp only [ha, Res.bind] at e; cases e
  | fail => simp only [ha, Res.bind] at e; cases e
section
variable {X : Cx} {ce : Ce} {W : WX} {nm q x : Str} {st : Stmt} {ps : List Str} {k j : Nat} {h : FS} {la : LS} {e : Expr} {es : List Expr} {p pos : Pos}
theorem sp_run {σ : St} {H1 : Hp} {Q : VK} {g : Gm} {ρ : List Sl} {dr1 : Dr} {ds : List D} {vs : List V} {n : Nat} (S1 : SR X.K ce g H1 σ ρ dr1) (R : Reps X.K ce g.L H1 g.A vs ds) (hl : ds.length = n)
    (P1 : Post X.K ce W g σ ρ H1 (h ds dr1) fun d _ H' => ∀ v, Rep X.K ce g.L H' g.A v d → Q v H') : spD X.K ce n h vs H1 Q (WE W σ) := by
  refine ⟨by rw [R.length]; exact hl, g.L, g.A, ds, dr1, S1.tt, R, S1.tr, S1.pl, S1.nc, S1.gk, ?_⟩
  generalize h ds dr1 = r at P1
  cases r with
  | fail => exact P1
  | ok d dr2 => exact fun v H2 e q r => P1 H2 e (S1.step e q) v r
  | exc x dr2 => exact fun c dd H2 e q r => P1 H2 c dd e (S1.step e q) r
theorem ye_call (d : Df X.prog X.w X.K X.mg X.base ce x q st ps j h) (c : Cn X W k) (hj : j ≤ k) (ya : YA X ce W (e :: es) la) (hlen : LenA la ps.length) (hg : Gl X x := by rfl)
    (hdb : (x == ("__debug__" : Str)) = false := by decide) (he : starEach (e :: es) X.env = (false, eval e X.env) :: starEach es X.env := by rfl) (hpl : (backTo pos (starEach es X.env)).any (·.1) = false := by rfl) :
    YE X ce W (.Call (.Name x p) (e :: es) [] pos) (sCallF h la) := by
  obtain ⟨f, fd, hm, F, hb, ok⟩ := d.ex
  refine pe_imp (pe_callS (E := WE W) ok (c.rm.mono hj) hg hm F.kp hb c.ps ya hdb he hpl) fun σ H Q ⟨g, ρ, dr, S, P⟩ => ?_
  exact ⟨g, ρ, dr, S, (Post.bind P).mono fun ds dr1 H1 e1 E1 S1 P1 vs R => sp_run S1 R (hlen _ _ _ _ e1) P1⟩
abbrev YK (X : Cx) (ce : Ce) (W : WX) (es : List Keyword) (e : LS) : Prop := PK X es (tA' X.K ce W e)
theorem pk_imp {e : List Keyword} {t t' : TA} (h : PK X e t) (i : ∀ σ H Q, t' σ H Q → t σ H Q) : PK X e t' := ⟨fun pos pins s σ H Q I q => h.run pos pins s σ H Q I (i σ H Q q)⟩
theorem yk_nil : YK X ce W [] sNil := pk_imp pk_nil fun σ H Q ⟨g, ρ, dr, S, P⟩ => Post.ok P S [] .nil
theorem yk_cons {a : Expr} {ea : ES} {kws : List Keyword} {o : Option Str} {kp : Pos} (ya : YE X ce W a ea) (yb : YK X ce W kws la) : YK X ce W (⟨o, a, kp⟩ :: kws) (sCons ea la) :=
  pk_imp (pk_cons ya yb) fun σ H Q ⟨g, ρ, dr, S, P⟩ => ⟨g, ρ, dr, S, (Post.bind P).mono fun d dr1 H1 _ E1 S1 P1 v R => ⟨g, ρ, dr1, S1, (Post.bind P1).mono fun ds dr2 H2 _ E2 S2 P2 vs Rs => Post.ok P2 S2 (v :: vs) (.cons (S1.rep E2 R) Rs)⟩⟩
theorem Reps.getD {K : PySem.W.Frag} {L : Lx} {H : Hp} {A : Addr → Prop} {vs : List V} {ds : List D} (r : Reps K ce L H A vs ds) (i : Nat) : Rep K ce L H A (vs.getD i .non) (ds.getD i .non) := by
  cases hd : ds[i]? with
  | none =>
    have hv : vs[i]? = none := by rw [List.getElem?_eq_none_iff, r.length]; exact List.getElem?_eq_none_iff.mp hd
    rw [List.getD, List.getD, hd, hv]
    exact .non
  | some d =>
    obtain ⟨v, h1, h2⟩ := r.get hd
    rw [List.getD, List.getD, hd, h1]
    exact h2
theorem Reps.pick {K : PySem.W.Frag} {L : Lx} {H : Hp} {A : Addr → Prop} {vs : List V} {ds : List D} (r : Reps K ce L H A vs ds) : ∀ js : List Nat, Reps K ce L H A (js.map fun j => vs.getD j .non) (js.map fun j => ds.getD j .non)
  | [] => .nil
  | j :: js => .cons (r.getD j) (r.pick js)
theorem vals_pick {vs : List V} {us : List Value} (r : Vals vs us) (i : Nat) : RelV (vs.getD i .non) (us.getD i .none) := by
  induction r generalizing i with
  | nil => cases i <;> rfl
  | cons h t ih =>
    cases i with
    | zero => exact h
    | succ i => exact ih i
theorem Vals.pick {vs : List V} {us : List Value} (r : Vals vs us) : ∀ js : List Nat, Vals (js.map fun j => vs.getD j .non) (js.map fun j => us.getD j .none)
  | [] => .nil
  | j :: js => .cons (vals_pick r j) (Vals.pick r js)
/-- f(k = e, ..), nothing by position -/
theorem ye_callK {kws : List Keyword} {ks : List Str} (js : List Nat) (d : Df X.prog X.w X.K X.mg X.base ce x q st ps j h) (c : Cn X W k) (hj : j ≤ k) (ya : YK X ce W kws la) (hjs : js.length = ps.length)
    (hbind : ∀ (kV doc pm : Value) (an : Option Addr) (cdv ct : Value) (us : List Value), us.length = ks.length → bindArgs (PySem.W.fnOf q q (defArgs st) (defBody st) (defScope st) .none kV doc pm an cdv ct) ⟨[], ks.zip us⟩ = pure (ps.zip (js.map fun j => us.getD j .none)))
    (hlen : LenA la ks.length) (hg : Gl X x := by rfl) (hdb : (x == ("__debug__" : Str)) = false := by decide) (hall : (backToKw pos (keywordEach kws X.env)).all (·.1.isSome) = true := by rfl) (hks : (backToKw pos (keywordEach kws X.env)).filterMap (·.1) = ks := by rfl)
    (hpl : ((backTo pos (starEach [] X.env)).any (·.1) || (backToKw pos (keywordEach kws X.env)).any (·.1.isNone)) = false := by rfl) :
    YE X ce W (.Call (.Name x p) [] kws pos) (sCallF h (sPick js la)) := by
  obtain ⟨f, fd, hm, F, hb, ok⟩ := d.ex
  refine ⟨fun pins s σ H Q I ⟨g, ρ, dr, S, P⟩ => ?_⟩
  refine wpAny_Call_Name_kw (ld_glob I hg hm ?_ hdb)
  have P' : Post X.K ce W g σ ρ H (la ρ dr) fun ds dr1 H1 => Post X.K ce W g σ ρ H1 (h (js.map fun j => ds.getD j .non) dr1) fun d _ H' => ∀ v, Rep X.K ce g.L H' g.A v d → Q v H' := by
    have e : sCallF h (sPick js la) ρ dr = (la ρ dr).bind fun ds dr1 => h (js.map fun j => ds.getD j .non) dr1 := by
      unfold sCallF sPick
      cases la ρ dr <;> rfl
    rw [e] at P
    exact Post.bind P
  refine PySem.W.callWith_KW0 (h₀ := X.base) I.ok.mod.kin F.kp hall (thn (ya.run pos pins s σ H (fun zs H1 => spD X.K ce ps.length h (js.map fun j => zs.getD j .non) H1 Q (WE W σ) ∧ zs.length = ks.length) I ⟨g, ρ, dr, S, P'.mono fun ds dr1 H1 e1 E1 S1 P1 vs R => ⟨sp_run S1 (R.pick js) (by rw [List.length_map]; exact hjs) P1, by rw [R.length]; exact hlen _ _ _ _ e1⟩⟩) fun ws s2 ⟨zs, H2, I2, rz, q2, hz⟩ => ⟨I2.kIn, ?_⟩) hpl
  rw [hks]
  obtain ⟨oc, od, kV, doc, pm, an, cdv, ct, osl, rfl, lk, hcd⟩ := F.ex
  have hw : ws.length = ks.length := by rw [← rz.length]; exact hz
  refine wpAny_call (codeAny_mono (ok.run X.A X.stack s2 H2 ⟨[], ks.zip ws⟩ (js.map fun j => ws.getD j .none) (js.map fun j => zs.getD j .non) Q (WE W σ) (c.rm.mono hj) I2.env0 (.of_eq (hbind _ _ _ _ _ _ _ hw)) (Vals.pick rz js) q2) fun r s' hq => ?_)
  cases r with
  | error e => exact c.ps σ pins H2 s2 e s' I2 hq
  | ok fl =>
    cases fl with
    | ret u => exact I2.after hq
    | next => exact False.elim hq
    | brk => exact False.elim hq
    | cont => exact False.elim hq
end
end TP

set_option Elab.async false
set_option linter.all false
set_option maxRecDepth 100000
set_option maxHeartbeats 4000000
/-! TP, part 12: an exception caught and kept; lambdas handed to _law_caught. -/
namespace TP
open PySem L2

section
variable {X : Cx} {pins : List (Addr × Obj)} {σ : L2.St} {H : Hp} {s : Shared}
/-- an object that came up in this call, pinned till now, is tracked as an error -/
theorem adopt {a : Addr} {oe : Obj} {c : Value} {dd : Option Addr} (I : Inv X pins σ H s) (ha : s.heap.get? a = some oe) (na : H a = none) (nL : a ≠ X.env.locals) (hz : Zc c dd oe) (hd : ∃ vs, oe.data = .fields vs) (n0 : X.s_0.heap.get? a = none) (hp : ∀ p ∈ X.pn ++ pins, p.1 ≠ a) :
    Inv X pins σ (upd H a (ErrO a c dd)) s := by
  have ne : ∀ {b : Addr} {o : HO}, H b = some o → b ≠ a := fun e z => by
    rw [z, na] at e
    cases e
  refine ⟨I.ok, I.os, I.bare, ⟨I.base.keep, I.base.slot, fun b o e n hx => ?_, I.base.there, fun b xs e => ?_, fun b o u e => ?_, fun b ps e => ?_⟩, I.loc, I.cell, ?_, fun x c' e => ?_, fun p h => ?_, fun b ob e => ?_, I.len⟩
  · rw [upd_ne fun z => by rw [z, n0] at e; cases e]
    exact I.base.free b o e n hx
  · have q := I.base.tups b xs e
    rw [upd_ne (ne q)]
    exact q
  · have q := I.base.frzs b o u e
    rw [upd_ne (ne q)]
    exact q
  · obtain ⟨m, q⟩ := I.base.tbls b ps e
    exact ⟨m, by rw [upd_ne (ne q)]; exact q⟩
  · rw [upd_ne (Ne.symm nL)]
    exact I.free
  · rw [upd_ne fun z => ?_]
    · exact I.freeC x c' e
    · obtain ⟨v, o, ho, hv⟩ := I.cell x c' e
      obtain ⟨vs, hvs⟩ := hd
      rw [z, ha] at ho
      cases ho
      rw [hvs] at hv
      cases hv
  · obtain ⟨h1, h2, h3⟩ := I.pin p h
    exact ⟨h1, by rw [upd_ne (hp p h)]; exact h2, h3⟩
  · by_cases hb : b = a
    · subst hb
      rw [upd_same] at e
      cases e
      exact ⟨⟨oe, ha, hz, hd⟩, ⟨oe, ha⟩, fun h1 h2 ⟨o, e1, e2, e3⟩ k => ⟨o, k o e1, e2, e3⟩⟩
    · rw [upd_ne hb] at e
      refine (I.hok b ob e).stay (fun _ _ _ q => q) (fun c' q => ?_) fun c' xs q => ?_
      · rw [upd_ne (ne q)]; exact q
      · rw [upd_ne (ne q)]; exact q
end
/-- what the clause wishes of an exception of the body: it is of the class, and what follows holds with the error tracked -/
def wKeep (K : PySem.W.Frag) (c : Value) (i : Nat) (ts : Addr → TS) (D : Ends) : WX := fun cls d σ H =>
  PySem.W.exmOne K cls c = some true ∧ ∀ a, H a = none → ts a { nx := fun σ' H' => H' a = none → D.nx (σ'.set i none) (upd H' a (ErrO a cls d)), rt := fun _ _ => False, bk := fun _ _ => False, ct := fun _ _ => False } (σ.set i (some (.ref a))) H
section
variable {X : Cx} {x n : Str} {c : Value} {i : Nat} {body rest : List Stmt} {b0 : Stmt} {np pos pos' : Pos} {tb : WX → TS} {ts : Addr → TS}
/-- try: body / except x as n: suite; the error that was caught lives on -/
theorem ps_try_keep (hex : X.ex = []) (hs : X.stack = X.env :: X.outer) (hf : X.env.frame = some X.env.locals) (hN : X.N.Nodup) (hi : X.N[i]? = some n) (hln : X.env.kindOf n = some .local) (hc : Names X x c)
    (hb : ∀ (W : WX) (pn : List (Addr × Obj)) (xe : Value → Shared → Prop), Takes (X.tr pn xe) W → PSs (X.tr pn xe) body (tb W))
    (hsu : ∀ (a : Addr) (pn : List (Addr × Obj)), PSs (X.suite a pn) (b0 :: rest) (ts a)) :
    PS X (.Try body [.ExceptHandler (some (.Name x np)) (some n) (b0 :: rest) pos'] [] [] pos) (fun D σ H => tb (wKeep X.K c i ts D) D σ H) := by
  refine ⟨fun pins s σ H D I h => ?_⟩
  have frm : X.A.frames = some (X.env :: X.outer) := I.ok.frames.trans (congrArg some hs)
  have lcl : Loc X.env.scope n := .inl hln
  let look : Value → Shared → Prop := fun e s₁ => wpAny (model X.prog X.w) X.A (noteFrame e X.env) (fun _ s₂ => wpAny (model X.prog X.w) X.A (setFlight e none) (fun _ s₃ =>
    wpAny (model X.prog X.w) X.A (handleBy e X.env [.ExceptHandler (some (.Name x np)) (some n) (b0 :: rest) pos']) (SP X pins D) X.xe s₃) X.xe s₂) X.xe s₁
  have tk : Takes (X.tr (X.pn ++ pins) look) (wKeep X.K c i ts D) := by
    rintro _ s' ⟨a, B, sI, pins', σ', H', cls, d, rfl, JT, nb, up, sky, na, os, ag, isC, go⟩
    have J : Inv X pins σ' H' sI := JT.ofTry I.ok
    have sky2 : Sky B (X.env :: X.outer) a (Zc cls d) X.env.locals s'.heap := by rw [← hs]; exact sky
    refine Sky.land Zc.steady frm hf sky2 fun h3 f3 u3 => ?_
    obtain ⟨o3, w3, g3, z3, d3⟩ := f3.there
    -- the error's object is none of the frames
    have far : a ∉ frs (X.env :: X.outer) := fun m => by
      obtain ⟨_, o', e', q⟩ := f3.2.2.1.mem m
      rw [g3] at e'
      cases e'
      exact q _ d3
    have aL : a ≠ X.env.locals := fun z => far (List.mem_filterMap.mpr ⟨X.env, List.mem_cons_self, by rw [hf, z]⟩)
    have aF : a ∉ X.fs := fun m => by
      obtain ⟨e, he, q⟩ := List.mem_filterMap.mp m
      exact far (List.mem_filterMap.mpr ⟨e, List.mem_cons_of_mem _ he, q⟩)
    -- it is new to this call
    have noB : B.get? a = none := f3.2.1
    have gone : ∀ o, sI.heap.get? a ≠ some o := fun o e => by
      have q := nb a o e (by rw [hs]; exact far)
      rw [noB] at q
      cases q
    have n0 : X.s_0.heap.get? a = none := by
      cases e : X.s_0.heap.get? a with
      | none => rfl
      | some o =>
        obtain ⟨o', q⟩ := J.base.there a o e (by rw [hex]; simp)
        exact absurd q (gone o')
    have hp : ∀ p ∈ X.pn ++ pins, p.1 ≠ a := fun p hm z => by
      have q := (J.pin p hm).1
      rw [z] at q
      exact gone _ q
    have J3 : Inv X pins σ' H' { s' with heap := h3 } := J.landed nb f3.1 (up.trans u3) os ag
    have S3 := J3.suite g3 d3 na aL aF
    refine wpAny_handleBy_cons (codeAny_handlers_test ?_) (by intro q; cases q)
    have tyE : PySem.W.Looks (model X.prog X.w) h3 (typeOf (.ref a)) cls := fun A Q E s k q => wpAny_typeOf_ref (k _ _ g3) (by rw [z3.1]; exact q)
    have mt := PySem.W.exm_one (M := model X.prog X.w) J3.kIn tyE isC
    have nameC : ∀ {Q E : Value → Shared → Prop}, Q c { s' with heap := h3 } → wpAny (model X.prog X.w) (X.A.mark (some (.ref a))) (eval (.Name x np) X.env) Q E { s' with heap := h3 } := fun {Q E} q => by
      obtain ⟨hg, hdb, m | ⟨m, hv, hn⟩⟩ := hc
      · exact ld_glob (X := X.suite a ((a, o3) :: (X.pn ++ pins))) S3 hg m q hdb
      · exact ld_blt (X := X.suite a ((a, o3) :: (X.pn ++ pins))) S3 hg m hv q hn hdb
    refine nameC (mt.here ?_)
    refine codeAny_handlers_suite_as (HandSPX.lands_againZ f3 fun h4 f4 u4 => ?_)
    have J4 : Inv X pins σ' H' { s' with heap := h4 } := J.landed nb f4.1 ((up.trans u3).trans u4) os ag
    obtain ⟨o4, w4, g4, z4, d4⟩ := f4.there
    refine store_ok (X := X.suite a ((a, o4) :: (X.pn ++ pins))) (v := .ref a) (J4.suite g4 d4 na aL aF) hN hi lcl rfl (fun s5 S5 => ?_) (.inr hln)
    refine wpAny_mono ((hsu a ((a, o4) :: (X.pn ++ pins))).run [] s5 _ H' _ S5 (go a na)) (fun f s6 q => ?_) fun _ _ z => z.elim
    cases f with
    | next =>
      obtain ⟨σ6, H6, S6, q6⟩ := q
      obtain ⟨e6, n6, _⟩ := S6.pin (a, o4) (List.mem_append_left _ List.mem_cons_self)
      have J6 := adopt (S6.unsuite I.ok) e6 n6 aL z4 ⟨_, d4⟩ n0 hp
      exact gone_ok J6 hN hi hln fun s7 J7 => ⟨_, _, J7, q6 n6⟩
    | brk => obtain ⟨_, _, _, z⟩ := q; exact z.elim
    | cont => obtain ⟨_, _, _, z⟩ := q; exact z.elim
    | ret u => obtain ⟨_, _, _, _, _, z⟩ := q; exact z.elim
  refine wpAny_Try_except (wpAny_mono ((hb _ (X.pn ++ pins) look tk).run [] s σ H D (I.toTry _) h) (fun f s1 q => ?_) fun _ _ q => q)
  cases f with
  | next => obtain ⟨σ', H', J, q⟩ := q; exact wpAny_execs_nil ⟨σ', H', J.ofTry I.ok, q⟩
  | brk => obtain ⟨σ', H', J, q⟩ := q; exact ⟨σ', H', J.ofTry I.ok, q⟩
  | cont => obtain ⟨σ', H', J, q⟩ := q; exact ⟨σ', H', J.ofTry I.ok, q⟩
  | ret u => obtain ⟨v, σ', H', J, r, q⟩ := q; exact ⟨v, σ', H', J.ofTry I.ok, r, q⟩
end

theorem Takes.len {X : Cx} {W : WX} (t : Takes X W) : Takes X (fun cls d σ H => σ.length = X.N.length → W cls d σ H) := fun u s' ⟨a, B, sI, pins, σ, H, cls, d, e, I, nb, up, sky, na, os, ag, w⟩ =>
  t u s' ⟨a, B, sI, pins, σ, H, cls, d, e, I, nb, up, sky, na, os, ag, w I.len⟩
/-- caught: nothing was raised; or an error of the class at CS (and below), which is handed out -/
def TTk (K : PySem.W.Frag) (CS : Addr) : (XK → Hp → VK → Prop) → Hp → VK → Prop := fun tl H Q =>
  tl (fun cls d H' => PySem.W.exmOne K cls (.ref CS) = some true ∧ ∀ a, H' a = none → Q (.ref a) (upd H' a (ErrO a cls d))) H fun _ H' => Q .non H'
/-- def x(a): n = None / try: a() / except PlaneError as e: n = e / return n -/
def caughtB (a n e C : Str) (j : Nat) (p1 p2 p3 p4 p5 p6 p7 p8 p9 p10 p11 p12 p13 p14 : Pos) : List Stmt :=
  [.Assign [.Name n p1] (.Constant .none j p2) p3, .Try [.Expr (.Call (.Name a p4) [] [] p5) p6] [.ExceptHandler (some (.Name C p7)) (some e) [.Assign [.Name n p8] (.Name e p9) p10] p11] [] [] p12, .Return (some (.Name n p13)) p14]
section
variable {X : Cx}
theorem caught_gives {x q C : Str} {sg : Scope} {g CS : Addr} {cdg : Value} {j : Nat} {p1 p2 p3 p4 p5 p6 p7 p8 p9 p10 p11 p12 p13 p14 : Pos} (hge : sg.names.lookup C = some .globalImplicit) (hme : X.mg C = some (.ref CS)) (hde : (C == ("__debug__" : Str)) = false)
    (h1 : sg.names.lookup ("caught" : Str) = some .local) (h2 : sg.names.lookup ("error" : Str) = some .local) :
    LamX.GivesTo X ["work", "caught", "error"] x sg g cdg (caughtB "work" "caught" "error" C j p1 p2 p3 p4 p5 p6 p7 p8 p9 p10 p11 p12 p13 p14) "work" q (TTk X.K CS) := by
  intro f c' s H Q tl act hc h
  let Y : Cx := (cxOf C8.CX0 X.prog X.w X.K X.mg X.base ["work", "caught", "error"] x sg g cdg X.A X.stack s H C8.E0).nox
  have nd : (["work", "caught", "error"] : List Str).Nodup := by decide
  refine ⟨_, pss_cons (ps_set (X := Y) (i := 1) (x := "caught") nd rfl (.inl h1) pe_non rfl (.inl rfl)) (pss_cons (ps_try_keep (X := Y) (i := 2) (n := "error") (c := .ref CS) (ts := fun a => tAsg (tVar 2) (gName 1))
      (tb := fun W D σ H => ∃ Ech : XK, (∀ cls d σ' H', Ech cls d H' → σ'.length = 3 → W cls d σ' H') ∧ ∃ Q0 : VK, (σ[0]? = some (some (.ref f)) ∧ H c' = some (LamX.CodeO c' q) ∧ tl Ech H Q0) ∧ ∀ v H', Q0 v H' → D.nx σ H')
      rfl rfl rfl nd rfl h2 ⟨hge, hde, .inl hme⟩ (fun W pn xe tk => ?_) (fun a pn => ?_)) (pss_one (ps_ret (pe_var (i := 1) (x := "caught") rfl (.inl h1) (by decide))))), ?_⟩
  · refine ⟨fun pins s' σ H' D I h' => ?_⟩
    obtain ⟨Ech, hW, Q0, e, m⟩ := h'
    have hp := act (fun cls d σ H => σ.length = 3 → W cls d σ H) pn xe Ech p4 p5 (Takes.len tk) (fun cls d σ' H' z => hW cls d σ' H' z)
    have hq : PE (Y.tr pn xe) (.Call (.Name "work" p4) [] [] p5) fun σZ HZ Q => ∃ Q0 : VK, (σZ[0]? = some (some (.ref f)) ∧ HZ c' = some (LamX.CodeO c' q) ∧ tl Ech HZ Q0) ∧ ∀ v H', Q0 v H' → Q v H' :=
      ⟨fun pins s σ H Q I ⟨Q0, h, m⟩ => thn (hp.run pins s σ H Q0 I h) fun v s1 ⟨x, H1, I1, r, q⟩ => ⟨x, H1, I1, r, m _ _ q⟩⟩
    exact (pss_one (ps_expr (pos := p6) hq rfl)).run pins s' σ H' D I ⟨Q0, e, fun v H' q => m v H' q⟩
  · exact pss_one (ps_set (X := Y.suite a pn) (i := 1) (x := "caught") nd rfl (.inl h1) (pe_var (i := 2) (x := "error") rfl (.inl h2) (by decide)) rfl (.inl rfl))
  · refine ⟨fun cls d H' => PySem.W.exmOne X.K cls (.ref CS) = some true ∧ ∀ a, H' a = none → Q (.ref a) (upd H' a (ErrO a cls d)), fun cls d σ' H' ⟨e1, e2⟩ hl => ⟨e1, fun a na => ?_⟩, _, ⟨rfl, hc, h⟩, fun v H' q => ⟨_, rfl, q⟩⟩
    match σ', hl with
    | [_, _, _], _ => exact ⟨_, rfl, fun _ => ⟨_, rfl, e2 a na⟩⟩
end
def sCaught (is : Nat → Bool) (e : ES) : ES := fun ρ dr => match e ρ dr with
  | .ok _ dr1 => .ok .non dr1
  | .exc x dr1 => if is x.c = true then .ok (.err x.c x.fn x.fs) dr1 else .fail
  | .fail => .fail
/-- the def that catches stands in the text -/
structure Cau (K : PySem.W.Frag) (mg : Str → Option Value) (ce : Ce) (is : Nat → Bool) (x : Str) (st : Stmt) (cd : Value) : Prop where
  tx : Tx K mg x x st cd
  sc : FnScope ["work", "caught", "error"] ["work"] (defScope st)
  bd : ∃ j p1 p2 p3 p4 p5 p6 p7 p8 p9 p10 p11 p12 p13 p14, defBody st = caughtB "work" "caught" "error" "PlaneError" j p1 p2 p3 p4 p5 p6 p7 p8 p9 p10 p11 p12 p13 p14
  l0 : Vis (defScope st) ("work" : Str)
  l1 : (defScope st).names.lookup ("caught" : Str) = some .local
  l2 : (defScope st).names.lookup ("error" : Str) = some .local
  l3 : (defScope st).names.lookup ("PlaneError" : Str) = some .globalImplicit
  hb : ∀ (kV doc pm : Value) (an : Option Addr) (cdv ct : Value) (us : List Value), us.length = 1 → bindArgs (PySem.W.fnOf x x (defArgs st) (defBody st) (defScope st) .none kV doc pm an cdv ct) ⟨us, []⟩ = pure ((["work"] : List Str).zip us)
  cs : ∃ CS, mg "PlaneError" = some (.ref CS) ∧ ∀ c, is c = true → PySem.W.exmOne K (.ref (ce.cls c)) (.ref CS) = some true
section
variable {X : Cx} {ce : Ce} {W : WX} {k j : Nat}
/-- the context of a lambda's body -/
abbrev Xl (X : Cx) (A : Around) (outer : List Env) (s : Shared) (H : Hp) (E : XK) (scope : Scope) (f c' : Addr) : Cx := LamX.lamCx X A outer s H E scope f c'
theorem ye_caught {is : Nat → Bool} {x : Str} {st : Stmt} {cd : Value} {c P : Addr} {params : Arguments} {body : Expr} {scope : Scope} {p lpos pos : Pos} {e : ES} (Ca : Cau X.K X.mg ce is x st cd) (C : Cn X W k) (hj : j + 2 ≤ k)
    (TB : LamX.TabB X.base X.mg c P) (hcode : X.env.code = .ref c) (hmT : (P, X.env.qual ++ "<lambda>") ∈ ce.T) (hu : ∀ p ∈ ce.T, p.1 = P → p.2 = X.env.qual ++ "<lambda>") (L : LamX.LamS X.env.scope scope) (hdef : defaultsOf params X.env = ([], []))
    (hbind : ∀ (q : Str) (cl : List (Str × Addr)) (pm cv ctv : Value), bindArgs (PySem.W.kla_fn "<lambda>" q params body scope cl pm cv ctv) ⟨[], []⟩ = pure [])
    (hbody : ∀ (A : Around) (outer : List Env) (s : Shared) (H : Hp) (E : XK) (f c' : Addr), Cn (Xl X A outer s H E scope f c') (fun cls d _ H => E cls d H) j → YE (Xl X A outer s H E scope f c') ce (fun cls d _ H => E cls d H) body e)
    (hg : Gl X x := by rfl) (hdb : (x == ("__debug__" : Str)) = false := by decide) : YE X ce W (.Call (.Name x p) [.Lambda params body scope lpos] [] pos) (sCaught is e) := by
  obtain ⟨g, oc, od, kV, doc, pm, an, ct, osl, h1, h2, h3, h4⟩ := Ca.tx.ex
  obtain ⟨CS, hCS, hex⟩ := Ca.cs
  obtain ⟨jj, p1, p2, p3, p4, p5, p6, p7, p8, p9, p10, p11, p12, p13, p14, hbd⟩ := Ca.bd
  have F := fun_mk h2 h3 h4
  have hG := caught_gives (X := X) (x := x) (q := X.env.qual ++ "<lambda>") (C := "PlaneError") (sg := defScope st) (g := g) (CS := CS) (cdg := cd) (j := jj) (p1 := p1) (p2 := p2) (p3 := p3) (p4 := p4) (p5 := p5) (p6 := p6) (p7 := p7) (p8 := p8) (p9 := p9) (p10 := p10) (p11 := p11) (p12 := p12) (p13 := p13) (p14 := p14) Ca.l3 hCS (by decide) Ca.l1 Ca.l2
  rw [← hbd] at hG
  refine pe_imp (LamX.pe_lamcall (T := ce.T) (t := fun E => tE X.K ce (fun cls d _ H => E cls d H) e) hg h1 h4 h2 h3 (F.binds (ps := ["work"]) Ca.hb) Ca.sc rfl Ca.l0 hG TB hcode hmT hu (C.rm.mono hj) L hdef hbind (fun A outer s H E f c' hr => ?_) hdb) fun σ H Q ⟨g, ρ, dr, S, P⟩ => ?_
  · exact hbody A outer s H E f c' ⟨⟨rfl, by
      have := hr.un
      show (A.deeper _).units + 65 < cLine
      omega, C.pc.nd⟩, fun σ => passAt (takes_of rfl rfl rfl rfl) σ, hr, passes_of rfl⟩
  · refine ⟨by rw [← S.tt]; exact S.gk.2, fun H1 eN T1 => ?_⟩
    have E1 : Ext g.L H H1 := fun b o e _ t => eN b o e t
    have q1 : GOk X.K H1 g.L dr := by
      refine ⟨?_, by rw [S.tt]; exact T1⟩
      have q := S.gk.1
      cases hL : g.L.lo with
      | none => trivial
      | some lo =>
        rw [hL] at q
        obtain ⟨h1, h2, h3, h4⟩ := q
        exact ⟨eN _ _ h1 NT.dK, eN _ _ h2 NT.lst, eN _ _ h3 NT.lst, h4⟩
    have S1 := S.step E1 q1
    refine ⟨g, ρ, dr, S1, ?_⟩
    unfold sCaught at P
    cases hr : e ρ dr with
    | fail => simp only [hr] at P; exact P
    | ok d dr1 =>
      simp only [hr] at P
      exact fun H' e2 S2 v r => P H' (E1.trans e2) S2 .non .non
    | exc xx dr1 =>
      simp only [hr] at P
      split at P
      case isFalse => exact P.elim
      case isTrue hi =>
      intro H' c2 dd e2 S2 Xr
      obtain ⟨hc2, hd⟩ := Xr
      refine ⟨by rw [hc2]; exact hex _ hi, fun a na => P _ ((E1.trans e2).trans (.new na)) (S2.new na) (.ref a) ?_⟩
      subst hc2
      rcases hd with ⟨rfl, f1, f2⟩ | ⟨d, us, rfl, g1, g2, g3, gn, g4⟩
      · rw [f1, f2]
        exact .err0 upd_same (S2.out na)
      · exact .errd upd_same (S2.out na) (by rw [upd_ne fun z => by rw [z, na] at g1; cases g1]; exact g1) g2 g3 gn (S2.newRs na g4)
end
end TP

set_option Elab.async false
set_option linter.all false
set_option maxRecDepth 100000
set_option maxHeartbeats 4000000
/-! TP, part 13: isinstance, list(). -/
namespace TP
open PySem L2

inductive Ty where
  | int | bool | str | tuple | list | dict
def tyS : Ty → String
  | .int => "int" | .bool => "bool" | .str => "str" | .tuple => "tuple" | .list => "list" | .dict => "dict"
def kS : D → Option String
  | .non => some "NoneType" | .bl _ => some "bool" | .int _ => some "int" | .str _ => some "str" | .tup _ => some "tuple" | .lst _ => some "list" | .dic _ _ => some "dict"
  | _ => none
/-- is the datum of that built-in type -/
def isB : Ty → D → Option Bool
  | .int, .int _ => some true | .int, .bl _ => some true | .bool, .bl _ => some true | .str, .str _ => some true | .tuple, .tup _ => some true | .list, .lst _ => some true | .dict, .dic _ _ => some true
  | _, .err _ _ _ => none | _, .draw => none | _, .scr _ => none | _, _ => some false
/-- is the datum an error of class c (R: which of the n classes is below which) -/
def isE (R : Nat → Nat → Bool) (n c : Nat) : D → Option Bool
  | .err m [] [] => if m < n then some (R m c) else none
  | .err _ _ _ => none
  | .draw => none
  | .scr _ => none
  | _ => some false
def isAny (fs : List (D → Option Bool)) (d : D) : Option Bool := match fs with
  | [] => some false
  | f :: fs => match f d with
    | some true => some true
    | some false => isAny fs d
    | none => none
/-- what isinstance needs to know of the class u -/
structure IsC (K : PySem.W.Frag) (ce : Ce) (f : D → Option Bool) (u : Value) : Prop where
  ok : ∀ d b, f d = some b → (∃ k, kS d = some k ∧ PySem.W.kitOne K (.type k) u = some b) ∨ ∃ n, d = .err n [] [] ∧ PySem.W.kitOne K (.ref (ce.cls n)) u = some b ∧ ExcC K (ce.cls n)
theorem kit_tys : ∀ k ∈ ["NoneType", "bool", "int", "str", "tuple", "list", "dict"], kitB k "int" = some (k == "int" || k == "bool") ∧ kitB k "bool" = some (k == "bool") ∧ kitB k "str" = some (k == "str") ∧ kitB k "tuple" = some (k == "tuple") ∧ kitB k "list" = some (k == "list") ∧ kitB k "dict" = some (k == "dict") := by decide +kernel
theorem isC_ty {K : PySem.W.Frag} {ce : Ce} (T : Ty) : IsC K ce (isB T) (.type (tyS T)) := ⟨fun d b h => by
  have key : ∀ k, k ∈ ["NoneType", "bool", "int", "str", "tuple", "list", "dict"] → _ := kit_tys
  left
  cases d with
  | err _ _ _ => cases T <;> cases h
  | draw => cases T <;> cases h
  | scr _ => cases T <;> cases h
  | non => exact ⟨_, rfl, kit_ty (by cases T <;> cases h <;> simp [tyS, kit_tys "NoneType"])⟩
  | bl x => exact ⟨_, rfl, kit_ty (by cases T <;> cases h <;> simp [tyS, kit_tys "bool"])⟩
  | int x => exact ⟨_, rfl, kit_ty (by cases T <;> cases h <;> simp [tyS, kit_tys "int"])⟩
  | str x => exact ⟨_, rfl, kit_ty (by cases T <;> cases h <;> simp [tyS, kit_tys "str"])⟩
  | tup x => exact ⟨_, rfl, kit_ty (by cases T <;> cases h <;> simp [tyS, kit_tys "tuple"])⟩
  | lst x => exact ⟨_, rfl, kit_ty (by cases T <;> cases h <;> simp [tyS, kit_tys "list"])⟩
  | dic x y => exact ⟨_, rfl, kit_ty (by cases T <;> cases h <;> simp [tyS, kit_tys "dict"])⟩⟩
section
variable {K : PySem.W.Frag} {ce : Ce} {g : Gm} {H : Hp} {v : V} {d : D}
theorem ty_rep {k : String} (r : RepB K ce g H v d) (hk : kS d = some k) : TyX K H v (.type k) := by
  rcases r with r | ⟨p, xs, l, e1, e2, h1, h2, h3, h4⟩ | ⟨p, ks, us, vs, e1, e2, h1, h2, h3, h4⟩
  · cases r with
    | non => cases hk; exact .base .non
    | bl b => cases hk; exact .base (.bl b)
    | int b => cases hk; exact .base (.int b)
    | str b => cases hk; exact .base (.str b)
    | tup h r =>
      cases hk
      rcases h.sq with (z | ⟨o, z⟩) | ⟨o, its, n, z, c, _⟩
      · exact .base (.tup z)
      · exact .fTuple z
      · exact .kTuple z c
    | lst h r => cases hk; exact .base (.lst h.2.1)
    | dic h n hl r =>
      cases hk
      obtain ⟨o, h⟩ := h
      exact .fDict h
    | err0 _ _ => cases hk
    | errd _ _ _ _ _ _ _ => cases hk
    | draw _ => cases hk
    | scr _ => cases hk
  · subst e1 e2
    cases hk
    exact .base (.lst h2)
  · subst e1 e2
    cases hk
    exact .base (.dK h2)
end
section
variable {X : Cx} {ce : Ce} {W : WX} {a : Expr} {ea : ES} {p p2 pos : Pos}
theorem pe_tyN {x : Str} {T : String} (hm : X.mg x = none) (hg : Gl X x := by rfl) (hv : bootBuiltins x = some (.type T) := by decide +kernel) (hn : x ≠ "__name__" := by decide) (hdb : (x == ("__debug__" : Str)) = false := by decide) : PE X (.Name x pos) (tC (.ty T)) :=
  ⟨fun pins s σ H Q I h => ld_blt I hg hm hv ⟨.ty T, H, I, rfl, h⟩ hn hdb⟩
/-- isinstance by values, also of errors -/
def rIs (K : PySem.W.Frag) (ce : Ce) (us : List Value) : List V → Hp → VK → Prop := fun xs H Q => ∃ (x : V) (b : Bool), (∃ c u, us = [u] ∧ xs = [x, c] ∧ ClsV c u ∧ ((∃ k, TyX K H x (.type k) ∧ PySem.W.kitOne K (.type k) u = some b) ∨ ∃ a C, x = .ref a ∧ H a = some (ErrO a (.ref C) none) ∧ PySem.W.kitOne K (.ref C) u = some b ∧ ExcC K C)) ∧ Q (.bl b) H
theorem call_is {us : List Value} : CallR X (.builtin "isinstance") (rIs X.K ce us) := by
  intro pins s σ H xs ws Q I r h
  obtain ⟨x, b, ⟨c, u, _, e1, k, hh⟩, q⟩ := h
  rcases hh with ⟨kk, ty, e⟩ | ⟨a, C, e2, h1, e, Cc⟩
  · exact call_isi pins s σ H xs ws Q I r ⟨x, c, _, u, b, e1, k, ty, e, q⟩
  · subst e1 e2
    obtain ⟨u1, u2, rfl, r1, r2⟩ := vals2 r
    have e2 := k.eq r2
    subst e2
    cases r1
    obtain ⟨⟨oe, hget, hz, vs, hv⟩, _⟩ := I.hok a _ h1
    have J : PySem.W.InstAt s.heap a oe C none := by
      obtain ⟨oc, od, oda, osl⟩ := oe
      obtain ⟨h1, h2⟩ := hz
      dsimp only at h1 h2 hv
      subst h1 h2 hv
      exact ⟨hget, rfl, rfl, trivial⟩
    exact PySem.W.kia_one (PySem.W.handS_kitx_exc Cc.hg Cc.hk Cc.hs Cc.hd Cc.ha Cc.hn Cc.ht Cc.hm) I.kIn J e (fun z => nomatch z) fun tk => ⟨.bl b, H, I.kept (t' := tk) fun _ _ z => z, rfl, q⟩
def sIs (f : D → Option Bool) (a : ES) : ES := fun ρ dr => (a ρ dr).bind fun x dr1 => lift ((f x).map D.bl) dr1
theorem is_of {g : Gm} {σ : St} {ρ : List Sl} {dr : Dr} {H : Hp} {f : D → Option Bool} {u : Value} {v : V} {d : D} {b : Bool} (C : IsC X.K ce f u) (r : RepB X.K ce g H v d) (h : f d = some b) :
    (∃ k, TyX X.K H v (.type k) ∧ PySem.W.kitOne X.K (.type k) u = some b) ∨ ∃ a C, v = .ref a ∧ H a = some (ErrO a (.ref C) none) ∧ PySem.W.kitOne X.K (.ref C) u = some b ∧ ExcC X.K C := by
  rcases C.ok d b h with ⟨k, h1, h2⟩ | ⟨n, rfl, h1, h2⟩
  · exact .inl ⟨k, ty_rep r h1, h2⟩
  · rcases r with r | ⟨p, xs, l, e1, e2, _⟩ | ⟨p, ks, us, vs, e1, e2, _⟩
    · cases r with
      | err0 h n => exact .inr ⟨_, _, rfl, h, h1, h2⟩
      | errd h n hd nd hl ne r => exact absurd rfl ne
    · cases e2
    · cases e2
/-- isinstance(e, C) -/
theorem ye_is {x : Str} {f : D → Option Bool} {c : V} {u : Value} (hm : X.mg "isinstance" = none) (C : IsC X.K ce f u) (k : ClsV c u) (ya : YB X ce W a ea) (hc : PE X (.Name x p2) (tC c)) (hg : Gl X "isinstance" := by rfl)
    (he : starEach [a, .Name x p2] X.env = (false, eval a X.env) :: starEach [.Name x p2] X.env := by rfl) (hpl : (backTo pos (starEach [.Name x p2] X.env)).any (·.1) = false := by rfl) :
    YE X ce W (.Call (.Name "isinstance" p) [a, .Name x p2] [] pos) (sIs f ea) := by
  refine pe_imp (pe_callB (call_is (ce := ce) (us := [u])) hg hm PyProof.Rows.boot_isinstance (pa_cons ya (pa_cons hc pa_nil) he) (by decide) (by decide) he hpl) fun σ H Q ⟨g, ρ, dr, S, P⟩ => ?_
  refine ⟨g, ρ, dr, S, (Post.bind P).mono fun d dr1 H1 _ E1 S1 P1 v R => ?_⟩
  cases hf : f d with
  | none => rw [hf] at P1; exact P1.elim
  | some b =>
    rw [hf] at P1
    exact ⟨v, b, ⟨c, u, rfl, rfl, k, is_of (σ := σ) (ρ := ρ) (dr := dr1) C R hf⟩, P1 _ .refl S1 _ (.bl b)⟩
end
end TP

set_option Elab.async false
set_option linter.all false
set_option maxRecDepth 100000
set_option maxHeartbeats 4000000
/-! TP, part S: sum(lists, []). -/
namespace PySem
section
variable {prog : Program} {w : World} {A : Around} {R : Result → Shared → Prop} {I : Addr} {fp wr : List Addr} {n : Nat} {P : Nat → Value → Prop} {St : Nat → Heap → Prop}
theorem tp_args_sum2 (a b : Value) : argsOk "sum" ⟨[a, b], []⟩ := by unfold argsOk; kernel_rfl
theorem tp_sub_list_str : isSubtype (.type "list") (.type "str") = pure false := by rw [isSubtype_type]; kernel_rfl
theorem tp_sub_list_bytes : isSubtype (.type "list") (.type "bytes") = pure false := by rw [isSubtype_type]; kernel_rfl
theorem tp_sub_list_bytearray : isSubtype (.type "list") (.type "bytearray") = pure false := by rw [isSubtype_type]; kernel_rfl
/-- the turns: in the state's list at S stands the sum so far, a list at T -/
theorem tp_sum_turns (W : Walks prog w A.in1 I fp wr n P St) (g0 : Heap) (ad : Nat → Addr) (xs : Nat → List Value) (hval : ∀ i v, P i v → v = .ref (ad i)) (hls : ∀ i, i < n → ∃ c, g0.get? (ad i) = some { cls := .type "list", data := .seq (xs i).toArray c })
    (S : Addr) (hSf : S ∉ fp) (hS0 : g0.get? S = none) (hS1 : g0.objs.size ≤ S) (hw0 : ∀ b ∈ wr, g0.get? b = none) (hwS : ∀ b ∈ wr, b < S) (hsz : ((List.range n).flatMap xs).length ≤ sizeLine) :
    ∀ (k i : Nat) (s : Shared) (T : Addr) (c c2 : Nat), n - i = k → i ≤ n → St i s.heap → s.heap.get? S = some { cls := .type "list", dict := none, data := .seq #[.ref T] c, slots := #[] } → s.heap.get? T = some { cls := .type "list", data := .seq ((List.range i).flatMap xs).toArray c2 } →
    (∀ b o, g0.get? b = some o → s.heap.get? b = some o) → T ≠ S → T ∉ wr → True →
    (∀ h' tk T' c', (∀ b o, g0.get? b = some o → h'.get? b = some o) → h'.get? T' = some { cls := .type "list", data := .seq ((List.range n).flatMap xs).toArray c' } → ((n = 0 ∨ i = n) ∧ T' = T ∨ g0.objs.size ≤ T') → R (.ok (.ret (.ref T'))) { s with heap := h', toks := tk }) →
    codeAny (model prog w) A (.builtin "sum.loop" ⟨[.ref I, .ref S, rawInt 2, rawInt 0], []⟩) R s := by
  have hSw : S ∉ wr := fun h => hSf (W.sub _ h)
  intro k
  induction k with
  | zero =>
    intro i s T c c2 hk hi hst hS hT hold hTS hTw hT0 hR
    have hin : i = n := by omega
    subst hin
    refine codeAny_builtin F.entry_sum_loop ?_
    rw [Around.under_plainId F.plain_sum_loop _]
    show wpAny _ A.in1 (seqItems? (.ref S) >>= _) _ _ s
    refine wpAny_bind (wpAny_seqItems hS rfl ?_)
    show wpAny _ A.in1 (tryCatch (pyNext (.ref I)) _ >>= _) _ _ s
    refine wpAny_bind (wpAny_tryCatch (W.done s _ _ hst fun h' tk hk' => ?_))
    exact wpAny_pure (hR h' tk T c2 (fun b o e => hk' b o (fun z => by rw [hw0 b z] at e; cases e) (hold b o e)) (hk' T _ hTw hT) (.inl ⟨.inr rfl, rfl⟩))
  | succ k ih =>
    intro i s T c c2 hk hi hst hS hT hold hTS hTw hT0 hR
    have hlt : i < n := by omega
    refine codeAny_builtin F.entry_sum_loop ?_
    rw [Around.under_plainId F.plain_sum_loop _]
    show wpAny _ A.in1 (seqItems? (.ref S) >>= _) _ _ s
    refine wpAny_bind (wpAny_seqItems hS rfl ?_)
    show wpAny _ A.in1 (tryCatch (pyNext (.ref I)) _ >>= _) _ _ s
    refine wpAny_bind (wpAny_tryCatch (W.item i s _ _ hlt hst fun v h' tk hP hst' hk' => ?_))
    obtain rfl := hval i v hP
    have hS' := hk' S _ hSw hS
    have hT' := hk' T _ hTw hT
    obtain ⟨ci, hgi⟩ := hls i hlt
    have hold' : ∀ b o, g0.get? b = some o → h'.get? b = some o := fun b o e => hk' b o (fun z => by rw [hw0 b z] at e; cases e) (hold b o e)
    have hi' := hold' _ _ hgi
    have step : (List.range (i + 1)).flatMap xs = (List.range i).flatMap xs ++ xs i := by rw [List.range_succ, List.flatMap_append]; simp
    have mono : ((List.range (i + 1)).flatMap xs).length ≤ sizeLine := by
      refine Nat.le_trans ?_ hsz
      have e : List.range n = List.range (i + 1) ++ (List.range n).drop (i + 1) := by
        have q := List.take_append_drop (i + 1) (List.range n)
        rw [List.take_range, Nat.min_eq_left hlt] at q
        exact q.symm
      rw [e, List.flatMap_append, List.length_append]
      omega
    show wpAny _ A.in1 ((holding [Value.ref (ad i)] (binaryOp .Add (.ref T) (.ref (ad i)))).attempt >>= _) _ _ _
    refine wpAny_bind (wpAny_attempt (wpAny_holding (PySem.P.add_list (s := { s with heap := h', toks := tk }) hT' hi' ?_ (by rw [List.size_toArray, List.size_toArray, ← List.length_append, ← step]; exact mono))))
    generalize hp : h'.push { cls := .type "list", data := .seq (((List.range i).flatMap xs).toArray ++ (xs i).toArray) } = h2
    have k2 : ∀ b o, h'.get? b = some o → h2.get? b = some o := fun b o e => by rw [← hp]; exact Heap.get?_push_of_some _ e
    have hS2 := k2 S _ hS'
    have hN : h2.get? h'.objs.size = some { cls := .type "list", data := .seq ((List.range (i + 1)).flatMap xs).toArray } := by
      rw [← hp, Heap.get?_push_size _ rfl, step]
      simp
    have nS : h'.objs.size ≠ S := Nat.ne_of_gt (Heap.lt_size hS')
    show wpAny _ A.in1 (updateSeq S (fun _ => #[.ref h'.objs.size]) >>= _) _ _ _
    refine wpAny_bind ?_
    refine wpAny_updateSeq hS2 rfl ?_
    refine wpAny_bind (wpAny_letGo ?_)
    have hS3 := Heap.get?_update_self (Obj.mapSeq fun _ => #[Value.ref h'.objs.size]) hS2 rfl
    refine wpAny_bind ?_
    refine wpAny_updateSeq hS3 rfl (wpAny_pure ⟨plainId_quiet F.plain_sum_loop _, ?_⟩)
    have up : ∀ b o, b ≠ S → h2.get? b = some o → ((h2.update S (Obj.mapSeq fun _ => #[Value.ref h'.objs.size])).update S (Obj.mapSeq fun _ => #[Value.ref h'.objs.size])).get? b = some o := fun b o n e =>
      (Heap.get?_update_other _ _ (Ne.symm n)).trans ((Heap.get?_update_other _ _ (Ne.symm n)).trans e)
    have old3 : ∀ b o, g0.get? b = some o → ((h2.update S (Obj.mapSeq fun _ => #[Value.ref h'.objs.size])).update S (Obj.mapSeq fun _ => #[Value.ref h'.objs.size])).get? b = some o := fun b o e => up b o (fun z => by rw [z, hS0] at e; cases e) (k2 b o (hold' b o e))
    have g0N : g0.objs.size ≤ h'.objs.size := Nat.le_trans hS1 (Nat.le_of_lt (Heap.lt_size hS'))
    refine ih (i + 1) _ h'.objs.size _ _ (by omega) hlt (W.frame _ _ _ hst' fun b hb o e => up b o (fun z => hSf (by rw [← z]; exact hb)) (k2 b o e)) (Heap.get?_update_self _ hS3 rfl) (up _ _ nS hN) old3 nS (fun z => ?_) trivial fun h'' tk'' T' c' k4 k5 k6 => ?_
    · exact Nat.lt_irrefl _ (Nat.lt_trans (hwS _ z) (Heap.lt_size hS'))
    · refine hR h'' tk'' T' c' k4 k5 (.inr ?_)
      rcases k6 with ⟨_, rfl⟩ | k6
      · exact g0N
      · exact k6
end
section
variable {prog : Program} {w : World} {A : Around} {E : Value → Shared → Prop} {s : Shared}
theorem tp_sum_lists {l st : Addr} {its : List Value} {Q : Value → Shared → Prop} (hh : A.handled = none) (hl : s.heap.IsList l its.toArray) (ad : Nat → Addr) (xs : Nat → List Value) (hval : ∀ (i : Nat) (v : Value), its[i]? = some v → v = Value.ref (ad i))
    (hls : ∀ i, i < its.length → ∃ c, s.heap.get? (ad i) = some { cls := .type "list", data := .seq (xs i).toArray c }) {c0 : Nat} (hst : s.heap.get? st = some { cls := .type "list", data := .seq #[] c0 }) (hsz : ((List.range its.length).flatMap xs).length ≤ sizeLine)
    (h : ∀ h' tk T' c', (∀ b o, s.heap.get? b = some o → h'.get? b = some o) → h'.get? T' = some { cls := .type "list", data := .seq ((List.range its.length).flatMap xs).toArray c' } → (its.length = 0 ∧ T' = st ∨ s.heap.objs.size ≤ T') → Q (.ref T') { s with heap := h', toks := tk }) :
    wpAny (model prog w) A (call (.builtin "sum") [.ref l, .ref st]) Q E s := by
  refine call_function_tree F.kind_sum F.plain_sum F.entry_sum (tp_args_sum2 _ _) ?_
  unfold Builtin.«sum»
  simp only [List.length_cons, List.length_nil]
  rw [if_neg (by decide)]
  refine wpAny_bind (wpAny_of_eq (show Builtin.Builtins.bindParams "sum" ["start"] 0 ⟨[.ref st], []⟩ = pure [some (.ref st)] from rfl) ?_)
  have hlt : l < s.heap.objs.size := by obtain ⟨_, e, _⟩ := hl; exact Heap.lt_size e
  have slt := Heap.lt_size hst
  refine wpAny_bind (wpAny_pyIter_list hl ?_)
  refine wpAny_bind (wpAny_pure ?_)
  generalize hp : s.heap.push { cls := .type "list_iterator", data := .fields #[.ref l, .int 0 0] } = h1
  have k1 : ∀ b o, s.heap.get? b = some o → h1.get? b = some o := fun b o e => by rw [← hp]; exact Heap.get?_push_of_some _ e
  have hT : Shared.TypeIs { s with heap := h1 } (.ref st) "list" := ⟨_, k1 _ _ hst, rfl⟩
  have z1 : h1.objs.size = s.heap.objs.size + 1 := by rw [← hp, Heap.size_push]
  have z2 : s.heap.objs.size < h1.objs.size := by rw [z1]; exact Nat.lt_succ_self _
  simp only [List.forIn_cons, List.forIn_nil]
  refine wpAny_bind (wpAny_bind (wpAny_bind (wpAny_isInstance (T := "list") (b := false) hT tp_sub_list_str ?_)))
  simp only [Bool.false_eq_true, if_false]
  refine wpAny_pure (wpAny_bind (wpAny_bind (wpAny_isInstance (T := "list") (b := false) hT tp_sub_list_bytes ?_)))
  simp only [Bool.false_eq_true, if_false]
  refine wpAny_pure (wpAny_bind (wpAny_bind (wpAny_isInstance (T := "list") (b := false) hT tp_sub_list_bytearray ?_)))
  simp only [Bool.false_eq_true, if_false]
  refine wpAny_pure (wpAny_pure ?_)
  refine wpAny_bind (wpAny_newObj_type ?_)
  have k2 : ∀ b o, h1.get? b = some o → (h1.push { cls := .type "list", data := .seq #[.ref st] }).get? b = some o := fun b o e => Heap.get?_push_of_some _ e
  have none0 : ∀ b, s.heap.objs.size ≤ b → s.heap.get? b = none := fun b hb => by
    cases e : s.heap.get? b with
    | none => rfl
    | some o => exact absurd (Heap.lt_size e) (Nat.not_lt_of_le hb)
  have W := Walks.list (prog := prog) (w := w) (A := A.in1) hh s.heap.objs.size l (Nat.ne_of_lt hlt) its.toArray
  rw [List.size_toArray] at W
  refine wpAny_pure ⟨plainId_quiet F.plain_sum_loop _, tp_sum_turns (W := W) s.heap ad xs (fun i v hv => hval i v (by simpa using hv)) hls h1.objs.size (fun z => ?_) (none0 _ (Nat.le_of_lt z2)) (Nat.le_of_lt z2) (fun b hb => ?_) (fun b hb => ?_) hsz
    its.length 0 _ st _ _ rfl (Nat.zero_le _) ?_ (Heap.get?_push_size _ rfl) (k2 _ _ (k1 _ _ hst)) (fun b o e => k2 b o (k1 b o e)) (fun z => by rw [z] at slt; exact Nat.lt_irrefl _ (Nat.lt_trans slt z2)) (fun z => ?_) trivial fun h' tk T' c' q1 q2 q3 => h h' tk T' c' q1 q2 ?_⟩
  · rcases List.mem_cons.mp z with z | z
    · rw [z] at z2
      exact Nat.lt_irrefl _ z2
    · rw [← List.mem_singleton.mp z] at hlt
      exact Nat.lt_irrefl _ (Nat.lt_trans hlt z2)
  · rw [List.mem_singleton.mp hb]
    exact none0 _ (Nat.le_refl _)
  · rw [List.mem_singleton.mp hb]
    exact z2
  · refine ⟨⟨_, k2 _ _ (by rw [← hp]; exact Heap.get?_push_size _ rfl), rfl, rfl⟩, ?_⟩
    exact hl.at fun o e => k2 _ _ (k1 _ _ e)
  · rw [List.mem_singleton.mp z] at slt
    exact Nat.lt_irrefl _ slt
  · rcases q3 with ⟨q, rfl⟩ | q
    · exact .inl ⟨q.elim id Eq.symm, rfl⟩
    · exact .inr q
end
end PySem

namespace TP
open PySem L2
/-- sum(lists, []) by values -/
def rSumL (K : PySem.W.Frag) : List V → Hp → VK → Prop := fun vs H Q => ∃ (a st : Addr) (us : List V) (ls : List (List V)), vs = [.ref a, .ref st] ∧ SqL K H a us ∧ H st = some (.lst []) ∧ Paired (fun u l => ∃ b, u = .ref b ∧ H b = some (.lst l)) us ls ∧ ls.flatten.length ≤ sizeLine ∧
  (∀ p, H p = none → Q (.ref p) (upd H p (.lst ls.flatten))) ∧ (ls = [] → Q (.ref st) H)
theorem paired_at {α β : Type} {F : α → β → Prop} : ∀ {l : List α} {m : List β}, Paired F l m → l.length = m.length ∧ ∀ (i : Nat) (x : α), l[i]? = some x → ∃ y, m[i]? = some y ∧ F x y
  | _, _, .nil => ⟨rfl, fun i x h => by simp at h⟩
  | _, _, .cons r t => ⟨congrArg (· + 1) (paired_at t).1, fun i x h => by
    cases i with
    | zero => simp at h; subst h; exact ⟨_, rfl, r⟩
    | succ i => simpa using (paired_at t).2 i x (by simpa using h)⟩
theorem flatMap_range {α : Type} (f : Nat → List α) : ∀ (ls : List (List α)), (∀ i l, ls[i]? = some l → f i = l) → (List.range ls.length).flatMap f = ls.flatten := by
  intro ls
  induction ls generalizing f with
  | nil => intro _; rfl
  | cons l ls ih =>
    intro h
    rw [List.length_cons, List.range_succ_eq_map, List.flatMap_cons, List.flatten_cons, h 0 l rfl, List.flatMap_map]
    congr 1
    exact ih (fun i => f (i + 1)) fun i m e => h (i + 1) m (by simpa using e)
theorem call_sumL {X : Cx} (hc : X.calm = true) : CallR X (.builtin "sum") (rSumL X.K) := by
  intro pins s σ H xs us Q I r h
  obtain ⟨a, st, vs, ls, rfl, hS, hst, hp, hz, q1, q2⟩ := h
  obtain ⟨u1, u2, rfl, r1, r2⟩ := vals2 r
  cases (show u1 = Value.ref a from r1)
  cases (show u2 = Value.ref st from r2)
  obtain ⟨its, rv, hl, hlen⟩ := I.list hS
  obtain ⟨_, its0, c0, rv0, hst0⟩ := I.hok st _ hst
  cases rv0
  obtain ⟨hl1, hat⟩ := paired_at hp
  -- each item: where it stands, what it holds
  have item : ∀ i : Nat, ∃ (b : Addr) (w : List Value), i < its.length → ∃ (l : List V) (c : Nat), ls[i]? = some l ∧ its[i]? = some (.ref b) ∧ s.heap.get? b = some { cls := .type "list", data := .seq w.toArray c } ∧ Vals l w := fun i => by
    by_cases hi : i < its.length
    · obtain ⟨u, hu⟩ : ∃ u, its[i]? = some u := ⟨its[i], by simp [hi]⟩
      obtain ⟨v, hv⟩ : ∃ v, vs[i]? = some v := ⟨vs[i]'(by rw [rv.length]; exact hi), by simp [rv.length, hi]⟩
      obtain ⟨u', hu', rr⟩ := rv.get hv
      rw [hu] at hu'
      cases hu'
      obtain ⟨l, e1, b, e2, e3⟩ := hat i v hv
      subst e2
      cases rr
      obtain ⟨_, w, c, rw', e4⟩ := I.hok b _ e3
      exact ⟨b, w, fun _ => ⟨l, c, e1, hu, e4, rw'⟩⟩
    · exact ⟨0, [], fun h => absurd h hi⟩
  let ad : Nat → Addr := fun i => (item i).choose
  let ws : Nat → List Value := fun i => (item i).choose_spec.choose
  have sp : ∀ i, i < its.length → ∃ (l : List V) (c : Nat), ls[i]? = some l ∧ its[i]? = some (.ref (ad i)) ∧ s.heap.get? (ad i) = some { cls := .type "list", data := .seq (ws i).toArray c } ∧ Vals l (ws i) := fun i hi => (item i).choose_spec.choose_spec hi
  have hn : its.length = ls.length := by rw [← rv.length]; exact hl1
  have flat : Vals ls.flatten ((List.range its.length).flatMap ws) := by
    have key : ∀ (n : Nat), n ≤ ls.length → Vals (ls.take n).flatten ((List.range n).flatMap ws) := by
      intro n
      induction n with
      | zero => intro _; exact .nil
      | succ n ih =>
        intro hle
        obtain ⟨l, c, e1, _, _, e4⟩ := sp n (by omega)
        have et : ls.take (n + 1) = ls.take n ++ [l] := by rw [List.take_add_one, e1]; rfl
        rw [et, List.flatten_append, List.range_succ, List.flatMap_append]
        simp only [List.flatten_cons, List.flatten_nil, List.append_nil, List.flatMap_cons, List.flatMap_nil]
        exact (ih (by omega)).append e4
    have := key ls.length (Nat.le_refl _)
    rw [List.take_length] at this
    rw [hn]
    exact this
  refine tp_sum_lists (I.ok.hd hc) hl.isList ad ws (fun i v hv => ?_) (fun i hi => ?_) hst0 (by rw [← flat.length]; exact hz) fun h' tk T' c' k hT hor => ?_
  · obtain ⟨l, c, _, e, _, _⟩ := sp i (List.getElem?_eq_some_iff.mp hv).1
    rw [e] at hv
    exact (Option.some.inj hv).symm
  · obtain ⟨l, c, _, _, e, _⟩ := sp i hi
    exact ⟨c, e⟩
  · rcases hor with ⟨h0, rfl⟩ | hsz
    · have hls : ls = [] := List.length_eq_zero_iff.mp (by omega)
      exact ⟨.ref T', H, I.kept (t' := tk) k, rfl, q2 hls⟩
    · exact ⟨.ref T', _, I.laid (o := .lst ls.flatten) (t' := tk) k hsz ⟨hz, _, _, flat, hT⟩, rfl, q1 T' (I.hok.fresh hsz)⟩
def catD : List D → Option (List D)
  | [] => some []
  | .lst l :: r => (catD r).map (l ++ ·)
  | _ => none
def sSumL (e : ES) : ES := fun ρ dr => (e ρ dr).bind fun x dr1 => match x with
  | .lst l => match catD l with
    | some m => if m.length ≤ sizeLine then .ok (.lst m) dr1 else .fail
    | none => .fail
  | _ => .fail
section
variable {X : Cx} {ce : Ce} {W : WX}
theorem catD_reps {K : PySem.W.Frag} {L : Lx} {H : Hp} {A : Addr → Prop} : ∀ {us : List V} {l m : List D}, Reps K ce L H A us l → catD l = some m → ∃ ls, Paired (fun u l => ∃ b, u = .ref b ∧ H b = some (.lst l)) us ls ∧ Reps K ce L H A ls.flatten m
  | _, _, _, .nil, h => by
    cases h
    exact ⟨[], .nil, .nil⟩
  | _, _, _, .cons (d := d) r t, h => by
    cases r with
    | lst hh rr =>
      unfold catD at h
      rename_i l
      obtain ⟨m', hm, rfl⟩ := Option.map_eq_some_iff.mp h
      obtain ⟨ls, h1, h2⟩ := catD_reps t hm
      exact ⟨_ :: ls, .cons ⟨_, rfl, hh.2.1⟩ h1, by rw [List.flatten_cons]; exact rr.append h2⟩
    | _ => unfold catD at h; cases h
theorem ye_sumL {e : Expr} {ea : ES} {p p2 pos : Pos} (hc : X.calm = true) (hm : X.mg "sum" = none) (ya : YE X ce W e ea) (hg : Gl X "sum" := by rfl)
    (he : starEach [e, .List [] p2] X.env = (false, eval e X.env) :: starEach [.List [] p2] X.env := by rfl) (hs2 : starEach [.List [] p2] X.env = (false, eval (.List [] p2) X.env) :: starEach [] X.env := by rfl) (hpl : (backTo pos (starEach [.List [] p2] X.env)).any (·.1) = false := by rfl) :
    YE X ce W (.Call (.Name "sum" p) [e, .List [] p2] [] pos) (sSumL ea) := by
  refine pe_imp (pe_callB (call_sumL hc) hg hm (by decide +kernel) (pa_cons ya (pa_cons (yf_lst (ya_nil (ce := ce) (W := W)) (pos := p2)) pa_nil hs2) he) (by decide) (by decide) he hpl) fun σ H Q ⟨g, ρ, dr, S, P⟩ => ?_
  refine ⟨g, ρ, dr, S, (Post.bind P).mono fun d dr1 H1 _ E1 S1 P1 v R => ⟨g, ρ, dr1, S1, ?_⟩⟩
  split at P1
  case h_2 => exact P1.elim
  case h_1 l =>
  split at P1
  case h_2 => exact P1.elim
  case h_1 m hm =>
  split at P1
  case isFalse => exact P1.elim
  case isTrue hz =>
  intro H2 E2 S2 st xs hn hd hst _ Rs
  cases Rs
  cases S1.rep E2 R with
  | lst hh rr =>
    rename_i a us
    obtain ⟨ls, h1, h2⟩ := catD_reps rr hm
    refine ⟨a, st, us, ls, rfl, hh.sq, hst, h1, by rw [h2.length]; exact hz, fun p hp => ?_, fun e0 => ?_⟩
    · exact P1 _ (E2.trans (.new hp)) (S2.new hp) _ (S2.lstN hp (by rw [h2.length]; exact hz) h2)
    · subst e0
      cases h2
      exact P1 _ E2 S2 _ (.lst ⟨by decide, hst, S1.out' hn hd⟩ .nil)
end
end TP

set_option Elab.async false
set_option linter.all false
set_option maxRecDepth 100000
set_option maxHeartbeats 4000000
/-! TP, part 14: isinstance with two types, list(). -/
namespace TP
open PySem L2
section
variable {X : Cx} {ce : Ce} {W : WX} {a : Expr} {ea : ES} {p p1 p2 p3 pos : Pos}
theorem isB_k {K : PySem.W.Frag} {ce : Ce} {T : Ty} {d : D} {b : Bool} (h : isB T d = some b) : ∃ k, kS d = some k ∧ PySem.W.kitOne K (.type k) (.type (tyS T)) = some b := by
  rcases (isC_ty (K := K) (ce := ce) T).ok d b h with q | ⟨n, rfl, _⟩
  · exact q
  · cases T <;> cases h
theorem ye_is2 {x1 x2 : Str} {T1 T2 : Ty} {kk : Nat} (hm : X.mg "isinstance" = none) (ya : YB X ce W a ea) (h1 : PE X (.Name x1 p1) (tC (.ty (tyS T1)))) (h2 : PE X (.Name x2 p2) (tC (.ty (tyS T2)))) (hg : Gl X "isinstance" := by rfl)
    (he : starEach [a, .Tuple [.Name x1 p1, .Name x2 p2] kk p3] X.env = (false, eval a X.env) :: starEach [.Tuple [.Name x1 p1, .Name x2 p2] kk p3] X.env := by rfl) (hpl : (backTo pos (starEach [.Tuple [.Name x1 p1, .Name x2 p2] kk p3] X.env)).any (·.1) = false := by rfl) :
    YE X ce W (.Call (.Name "isinstance" p) [a, .Tuple [.Name x1 p1, .Name x2 p2] kk p3] [] pos) (sIs (isAny [isB T1, isB T2]) ea) := by
  refine pe_imp (pe_callB call_isiT hg hm PyProof.Rows.boot_isinstance (pa_cons ya (pa_cons (pe_tup (pa_cons h1 (pa_cons h2 pa_nil))) pa_nil) he) (by decide) (by decide) he hpl) fun σ H Q ⟨g, ρ, dr, S, P⟩ => ?_
  refine ⟨g, ρ, dr, S, (Post.bind P).mono fun d dr1 H1 _ E1 S1 P1 v R => ?_⟩
  refine ⟨by show 2 ≤ sizeLine; decide, fun tp htp => ?_⟩
  cases hf : isAny [isB T1, isB T2] d with
  | none => rw [hf] at P1; exact P1.elim
  | some b =>
    rw [hf] at P1
    have R2 := R.step S1 (.new (o := .tup [.ty (tyS T1), .ty (tyS T2)]) htp)
    have S2 := S1.new (o := .tup [.ty (tyS T1), .ty (tyS T2)]) htp
    have fin := P1 _ (.new htp) S2 (.bl b) (.bl b)
    unfold isAny at hf
    cases e1 : isB T1 d with
    | none => rw [e1] at hf; cases hf
    | some b1 =>
      rw [e1] at hf
      obtain ⟨k, hk, k1⟩ := isB_k (K := X.K) (ce := ce) e1
      have ty := ty_rep R2 hk
      refine ⟨v, tp, _, _, [.type (tyS T1), .type (tyS T2)], b, rfl, upd_same, .cons (.ty _) (.cons (.ty _) .nil), ty, ?_, fin⟩
      cases b1 with
      | true =>
        cases hf
        exact kitAny_cons k1 (fun z => by cases z) fun _ => rfl
      | false =>
        simp only at hf
        unfold isAny at hf
        cases e2 : isB T2 d with
        | none => rw [e2] at hf; cases hf
        | some b2 =>
          rw [e2] at hf
          obtain ⟨k', hk', k2⟩ := isB_k (K := X.K) (ce := ce) e2
          rw [hk] at hk'
          cases hk'
          refine kitAny_cons k1 (fun _ => ?_) fun z => by cases z
          cases b2 with
          | true => cases hf; exact kitAny_cons k2 (fun z => by cases z) fun _ => rfl
          | false =>
            cases hf
            exact kitAny_cons k2 (fun _ => kitAny_nil) fun z => by cases z
/-- list(e), a new one -/
theorem yf_list (hm : X.mg "list" = none) (ya : YB X ce W a ea) (hg : Gl X "list" := by rfl)
    (he : starEach [a] X.env = (false, eval a X.env) :: starEach [] X.env := by rfl) (hpl : (backTo pos (starEach [] X.env)).any (·.1) = false := by rfl) : YF X ce W (.Call (.Name "list" p) [a] [] pos) (sItems ea) := by
  refine pe_imp (pe_callTy call_list_of hg hm (by decide +kernel) (pa_cons ya pa_nil he) (by decide) (by decide) he hpl) fun σ H Q ⟨g, ρ, dr, S, P⟩ => ?_
  refine ⟨g, ρ, dr, S, (Post.bind P).mono fun d dr1 H1 _ E1 S1 P1 v R => ?_⟩
  cases hq : asSeq d with
  | none => rw [hq] at P1; exact P1.elim
  | some l =>
    rw [hq] at P1
    have fin : ∀ (q : Addr) (xs : List V), xs.length ≤ sizeLine → (SqL X.K H1 q xs ∨ SqT X.K H1 q xs) → Reps X.K ce g.L H1 g.A xs l → ∃ p ys, [V.ref q] = [.ref p] ∧ (SqL X.K H1 p ys ∨ SqT X.K H1 p ys) ∧ ∀ l, H1 l = none → Q (.ref l) (upd H1 l (.lst ys)) := fun q xs hz hs Rs =>
      ⟨q, xs, rfl, hs, fun r hr => P1 _ (.new hr) (S1.new hr) r xs (E1.back hr fun z => S1.gk.not hr z.dl) (S1.gk.not hr) upd_same hz (S1.lstF hr Rs)⟩
    cases d with
    | lst l' =>
      cases hq
      obtain ⟨q, xs, rfl, hz, h1, Rs⟩ := R.lst
      exact fin q xs hz (.inl (.of h1)) Rs
    | tup l' =>
      cases hq
      obtain ⟨q, xs, rfl, hz, h1, Rs, _⟩ := R.tup
      exact fin q xs hz (.inr h1) Rs
    | _ => cases hq
end
end TP

set_option Elab.async false
set_option linter.all false
set_option maxRecDepth 100000
set_option maxHeartbeats 4000000
/-! TP, part 15: the draws. -/
namespace TP
open PySem L2
/-- the draws' dict -/
def drK (lo : Lo) (dr : Dr) : List (Key × V) := [(.inr "large", .ref lo.lg), (.inr "rest", .int dr.rest), (.inr "cells", .ref lo.cl), (.inr "turn", .int dr.turn)]
theorem dr_val (lo : Lo) (dr : Dr) : valV (drK lo dr) (.inr "large") = some (.ref lo.lg) ∧ valV (drK lo dr) (.inr "rest") = some (.int dr.rest) ∧ valV (drK lo dr) (.inr "cells") = some (.ref lo.cl) ∧ valV (drK lo dr) (.inr "turn") = some (.int dr.turn) := ⟨rfl, rfl, rfl, rfl⟩
theorem dr_put (lo : Lo) (dr : Dr) (x : Int) : putK (drK lo dr) (.inr "rest") (.int x) = drK lo { dr with rest := x } ∧ putK (drK lo dr) (.inr "turn") (.int x) = drK lo { dr with turn := x } := ⟨rfl, rfl⟩
def isDr (s : Option Sl) : Bool := match s with
  | some (.val .draw) => true
  | _ => false
def sDr (i : Nat) (f : Dr → Int) : ES := fun ρ dr => if isDr ρ[i]? = true then .ok (.int (f dr)) dr else .fail
def sDrSet (i : Nat) (f : Dr → Int → Dr) (e : ES) : SS := fun ρ dr => (e ρ dr).bind fun d dr1 => if isDr ρ[i]? = true then (match d with
  | .int x => .ok (.nx ρ) (f dr1 x)
  | _ => .fail) else .fail
/-- draw['large'] != [] -/
def sDrHas (i : Nat) : ES := fun ρ dr => if isDr ρ[i]? = true then .ok (.bl (!dr.large.isEmpty)) dr else .fail
/-- draw['large'].pop(0) -/
def sDrPop (i : Nat) : ES := fun ρ dr => if isDr ρ[i]? = true then (match dr.large with
  | x :: r => .ok (.int x) { dr with large := r }
  | [] => .fail) else .fail
/-- draw['cells'], walked -/
def sDrCells (i : Nat) : LS := fun ρ dr => if isDr ρ[i]? = true then .ok (dr.cells.map D.int) dr else .fail
section
variable {K : PySem.W.Frag} {ce : Ce} {g : Gm} {H : Hp} {σ : St} {ρ : List Sl} {dr : Dr}
theorem SR.drw (S : SR K ce g H σ ρ dr) {i : Nat} (h : isDr ρ[i]? = true) : ∃ lo, g.L.lo = some lo ∧ σ[i]? = some (some (.ref lo.d)) ∧ H lo.d = some (.dK (drK lo dr)) ∧ H lo.lg = some (.lst (dr.large.map V.int)) ∧ H lo.cl = some (.lst (dr.cells.map V.int)) ∧ lo.cl ≠ lo.d ∧ lo.cl ≠ lo.lg ∧ lo.d ≠ lo.lg ∧ dr.large.length ≤ 63 ∧ dr.cells.length ≤ 63 := by
  cases hs : ρ[i]? with
  | none => rw [hs] at h; cases h
  | some s =>
    rw [hs] at h
    cases s with
    | val d =>
      cases d with
      | draw =>
        obtain ⟨v, hv, r⟩ := sl_at S hs (by simp)
        cases r with
        | draw hL =>
          have q := S.gk.1
          rw [hL] at q
          obtain ⟨q1, q2, q3, q4, q5, q6, q7⟩ := q
          refine ⟨_, hL, hv, q1, q2, q3, q4, q5, fun z => ?_, q6, q7⟩
          rw [z, q2] at q1
          cases q1
      | _ => cases h
    | _ => cases h
theorem SR.drPut (S : SR K ce g H σ ρ dr) {lo : Lo} {dr' : Dr} {H' : Hp} (hL : g.L.lo = some lo) (e : ∀ b, b ≠ lo.d → b ≠ lo.lg → H' b = H b) (q : GOk0 K H' (some lo) dr') : Ext g.L H H' ∧ SR K ce g H' σ ρ dr' := by
  have E : Ext g.L H H' := fun b o h n _ => by
    rw [e b (fun z => n (.inl (by rw [hL]; exact .inl z))) (fun z => n (.inl (by rw [hL]; exact .inr z)))]
    exact h
  have k := S.gk.1
  rw [hL] at k
  refine ⟨E, S.step E ⟨by rw [hL]; exact q, fun p hp => ?_⟩⟩
  obtain ⟨ps, h1, h2, h3⟩ := S.gk.2 p hp
  refine ⟨ps, ?_, h2, fun pos cv hc => ?_⟩
  · rw [e _ (fun z => by rw [z, k.1] at h1; cases h1) (fun z => by rw [z, k.2.1] at h1; cases h1)]
    exact h1
  · obtain ⟨c, e1, e2⟩ := h3 pos cv hc
    refine ⟨c, e1, ?_⟩
    rw [e _ (fun z => by rw [z, k.1] at e2; cases e2) (fun z => by rw [z, k.2.1] at e2; cases e2)]
    exact e2
end
section
variable {X : Cx} {ce : Ce} {W : WX} {a : Expr} {ea : ES} {p p2 pos : Pos} {j i : Nat} {x : Str}
theorem dr_get {σ : St} {H : Hp} {Q : VK} {g : Gm} {ρ : List Sl} {dr : Dr} (S : SR X.K ce g H σ ρ dr) (h : isDr ρ[i]? = true) {k : Str} {f : Lo → V} (hk : ∀ lo, valV (drK lo dr) (.inr k) = some (f lo)) (q : ∀ lo, g.L.lo = some lo → Q (f lo) H) : tDGet (tVar i) (tC (.str k)) σ H Q := by
  obtain ⟨lo, hL, hv, h1, _⟩ := S.drw h
  refine ⟨_, hv, lo.d, f lo, rfl, ?_, q lo hL⟩
  have z := DGet.k (k := .inr k) h1
  rw [hk lo] at z
  exact z
/-- draw['rest'], draw['turn'] -/
theorem ye_dr (P0 : Pc X) {k : Str} {f : Dr → Int} (hk : ∀ lo dr, valV (drK lo dr) (.inr k) = some (.int (f dr))) (hv : PE X (.Name x p) (tVar i)) : YE X ce W (.Subscript (.Name x p) (.Constant (.str k) j p2) pos) (sDr i f) := by
  refine pe_imp (pe_dget (by have := P0.hu; omega) hv pe_str (fun _ _ => rfl)) fun σ H Q ⟨g, ρ, dr, S, P⟩ => ?_
  unfold sDr at P
  split at P
  case isFalse => exact P.elim
  case isTrue h => exact dr_get S h (f := fun _ => .int (f dr)) (fun lo => hk lo dr) fun lo hL => Post.ok P S _ (.int _)
/-- draw['rest'] = e -/
theorem ys_drSet (P0 : Pc X) {k : Str} {f : Dr → Int → Dr} (hk : ∀ lo dr x, putK (drK lo dr) (.inr k) (.int x) = drK lo (f dr x)) (hl : ∀ dr x, (f dr x).large = dr.large ∧ (f dr x).cells = dr.cells) (hv : PE X (.Name x p) (tVar i)) (ya : YE X ce W a ea)
    (hs : swapsWithSole [.Subscript (.Name x p) (.Constant (.str k) j p2) p3] a pos.line X.env = pure false := by rfl) (hw : swappedStores [.Subscript (.Name x p) (.Constant (.str k) j p2) p3] a X.env = pure none := by rfl)
    (ha : ∀ v, assign (.Subscript (.Name x p) (.Constant (.str k) j p2) p3) X.env v = (do
      let ov ← holding [v] (eval (.Name x p) X.env)
      let iv ← holding [v, ov] (eval (.Constant (.str k) j p2) X.env)
      standAt p3
      holding [v, ov, iv] (setItem ov iv v)
      release [v, ov, iv] []) := by intro _; rfl) (h1 : (assignEach [.Subscript (.Name x p) (.Constant (.str k) j p2) p3] X.env).map (·.2) = [assign (.Subscript (.Name x p) (.Constant (.str k) j p2) p3) X.env] := by rfl) :
    YS X ce W (.Assign [.Subscript (.Name x p) (.Constant (.str k) j p2) p3] a pos) (sDrSet i f ea) := by
  refine ps_imp (ps_asg ya (pg_sub hv pe_str (set_dict (by have := P0.hu; omega)) ha) hs hw h1) fun D σ H ⟨g, ρ, dr, S, P⟩ => ?_
  refine ⟨g, ρ, dr, S, (SP'.post P S).mono fun d dr1 H1 _ E1 S1 P1 v R => ?_⟩
  split at P1
  case isFalse => exact P1.elim
  case isTrue h =>
  cases d with
  | int y =>
    cases R
    obtain ⟨lo, hL, hv', q1, q2, q3, q4, q5, q6, q7, q8⟩ := S1.drw h
    refine ⟨_, hv', lo.d, _, rfl, .k (k := .inr k) q1 (by show 4 < sizeLine; decide), ?_⟩
    rw [hk lo dr1 y]
    obtain ⟨l1, l2⟩ := hl dr1 y
    obtain ⟨e2, S2⟩ := S1.drPut (dr' := f dr1 y) (H' := upd H1 lo.d (.dK (drK lo (f dr1 y)))) hL (fun b h1 h2 => upd_ne h1) ⟨upd_same, by rw [upd_ne (Ne.symm q6), l1]; exact q2, by rw [upd_ne q4, l2]; exact q3, q4, q5, by rw [l1]; exact q7, by rw [l2]; exact q8⟩
    exact P1 σ _ g .refl (S1.kg e2) S2
  | _ => exact P1.elim
/-- draw['large'] != [] -/
theorem drHas_imp (P0 : Pc X) (σ : St) (H : Hp) (Q : VK) (q : tE X.K ce W (sDrHas i) σ H Q) : tOp (rNeD X.K) (tDGet (tVar i) (tC (.str "large"))) (tLst tNil) σ H Q := by
  obtain ⟨g, ρ, dr, S, P⟩ := q
  unfold sDrHas at P
  split at P
  case isFalse => exact P.elim
  case isTrue h =>
  refine dr_get S h (f := fun lo => .ref lo.lg) (fun lo => (dr_val lo dr).1) fun lo hL => ?_
  obtain ⟨lo', hL', hv', q1, q2, q3, q4, q5, q6, q7, q8⟩ := S.drw h
  rw [hL] at hL'
  cases hL'
  refine ⟨Nat.zero_le _, fun pp hp => ?_⟩
  have e2 : upd H pp (.lst []) lo.lg = some (.lst (dr.large.map V.int)) := by rw [upd_ne (ne_of_none q2 hp)]; exact q2
  have all : ∀ l : List Int, DpAll X.K (upd H pp (.lst [])) (l.map V.int) (l.map PyData.int) := fun l => by
    induction l with
    | nil => exact .nil
    | cons x l ih => exact .cons (.int x) ih
  have sh : ∀ l : List Int, SeqAt.shaped (.list (l.map PyData.int)) = true := fun l => by
    have : toPy (.lst (l.map D.int)) = .list (l.map PyData.int) := by
      show PyData.list (toPys (l.map D.int)) = _
      congr 1
      induction l with
      | nil => rfl
      | cons x l ih => show _ :: _ = _; rw [ih]; rfl
    rw [← this]
    refine shaped_toPy (n := 60) ?_ (Nat.le_refl _)
    show dOks 59 (l.map D.int) = true
    clear this
    induction l with
    | nil => rfl
    | cons x l ih => simp only [List.map_cons, dOks, ih]; rfl
  refine ⟨.list (dr.large.map PyData.int), .list [], .lst (.of e2) (all _), .lst (.of upd_same) .nil, sh _, sh [], ?_⟩
  have ev : (!PyData.eqv (.list (dr.large.map PyData.int)) (.list [])) = !dr.large.isEmpty := by
    cases dr.large <;> rfl
  rw [ev]
  exact P _ (.new hp) (S.new hp) _ (.bl _)
theorem ye_drHas (P0 : Pc X) {p3 p4 : Pos} (hv : PE X (.Name x p) (tVar i)) (hm : behindInMarks .NotEq (.List [] p4) = false := by rfl) : YE X ce W (.Compare (.Subscript (.Name x p) (.Constant (.str "large") j p2) p3) [.NotEq] [.List [] p4] pos) (sDrHas i) :=
  pe_imp (pe_cmpR (op_neD (Nat.lt_of_succ_lt P0.hu)) (pe_dget (by have := P0.hu; omega) hv pe_str (fun _ _ => rfl)) (pe_lst pa_nil) hm) fun σ H Q q => drHas_imp P0 σ H Q q
theorem yt_drHas (P0 : Pc X) {p3 p4 : Pos} (hv : PE X (.Name x p) (tVar i)) (hm : behindInMarks .NotEq (.List [] p4) = false := by rfl) : YT X ce W (.Compare (.Subscript (.Name x p) (.Constant (.str "large") j p2) p3) [.NotEq] [.List [] p4] pos) (sT (sDrHas i)) :=
  pt_imp (pt_cmpR (op_neD (Nat.lt_of_succ_lt P0.hu)) (pe_dget (by have := P0.hu; omega) hv pe_str (fun _ _ => rfl)) (pe_lst pa_nil) hm) fun σ H Q q => drHas_imp P0 σ H _ (test_of σ H Q q)
/-- draw['large'].pop(0) -/
theorem ye_drPop (P0 : Pc X) {p3 ap zp cp : Pos} {jz : Nat} (hv : PE X (.Name x p) (tVar i))
    (hbase : attributeBase (.Subscript (.Name x p) (.Constant (.str "large") j p2) p3) "pop" X.env (eval (.Subscript (.Name x p) (.Constant (.str "large") j p2) p3) X.env) = eval (.Subscript (.Name x p) (.Constant (.str "large") j p2) p3) X.env := by rfl)
    (hline : (ap.endLine == cp.line) = true := by rfl) : YE X ce W (.Call (.Attribute (.Subscript (.Name x p) (.Constant (.str "large") j p2) p3) "pop" ap) [.Constant (.int 0) jz zp] [] cp) (sDrPop i) := by
  refine pe_imp (pe_bm PySem.F.plainAttrs_list PySem.F.slot_list_pop PySem.F.type_list_pop mt_popAt (pe_dget (by have := P0.hu; omega) hv pe_str (fun _ _ => rfl)) (pa_cons pe_int pa_nil) hbase (by rfl) hline) fun σ H Q ⟨g, ρ, dr, S, P⟩ => ?_
  unfold sDrPop at P
  split at P
  case isFalse => exact P.elim
  case isTrue h =>
  cases hl : dr.large with
  | nil => simp only [hl] at P; exact P.elim
  | cons y r =>
    simp only [hl] at P
    refine dr_get S h (f := fun lo => .ref lo.lg) (fun lo => (dr_val lo dr).1) fun lo hL => ?_
    obtain ⟨lo', hL', hv', q1, q2, q3, q4, q5, q6, q7, q8⟩ := S.drw h
    rw [hL] at hL'
    cases hL'
    rw [hl] at q2 q7
    refine ⟨.inl ⟨rfl, _, .of q2⟩, lo.lg, _, 0, 0, .int y, rfl, rfl, q2, by decide, by decide, ?_, rfl, ?_⟩
    · unfold seqIndex?
      simp
    · obtain ⟨e2, S2⟩ := S.drPut (dr' := { dr with large := r }) (H' := upd H lo.lg (.lst (r.map V.int))) hL (fun b h1 h2 => upd_ne h2) ⟨by rw [upd_ne q6]; exact q1, upd_same, by rw [upd_ne q5]; exact q3, q4, q5, by simp at q7; show r.length ≤ 63; omega, q8⟩
      exact P _ e2 S2 _ (.int y)
theorem reps_ints {K : PySem.W.Frag} {L : Lx} {H : Hp} {A : Addr → Prop} : ∀ l : List Int, Reps K ce L H A (l.map V.int) (l.map D.int)
  | [] => .nil
  | x :: l => .cons (.int x) (reps_ints l)
/-- for .. in draw['cells'] -/
theorem yi_drCells (P0 : Pc X) {tg : Expr} {p3 : Pos} (hv : PE X (.Name x p) (tVar i)) : YI X ce W false tg (.Subscript (.Name x p) (.Constant (.str "cells") j p2) p3) (sDrCells i) := by
  refine ⟨_, pi_list (pe_dget (by have := P0.hu; omega) hv pe_str (fun _ _ => rfl)), fun σ H R g ρ dr S P => ?_⟩
  unfold sDrCells at P
  split at P
  case isFalse => exact P.elim
  case isTrue h =>
  refine dr_get S h (f := fun lo => .ref lo.cl) (fun lo => (dr_val lo dr).2.2.1) fun lo hL => ?_
  obtain ⟨lo', hL', hv', q1, q2, q3, q4, q5, q6, q7, q8⟩ := S.drw h
  rw [hL] at hL'
  cases hL'
  have hz : (dr.cells.map V.int).length ≤ sizeLine := by rw [List.length_map, sizeLine_eq]; omega
  have nA := S.nc lo hL
  refine ⟨lo.cl, rfl, ⟨_, .of q3⟩, Post.ok P S _ (itl_ok (fun b h => h) (reps_ints dr.cells) fun A' H' k => .of (k.stay _ _ nA q3 .lst))⟩
end
end TP

set_option Elab.async false
set_option linter.all false
set_option maxRecDepth 100000
set_option maxHeartbeats 4000000
/-! TP, part 16: constants of the top, list + list as a new list, a def under another name, classes of errors. -/
namespace TP
open PySem L2
section
variable {X : Cx} {ce : Ce} {W : WX} {a b : Expr} {ea eb : ES} {pos : Pos} {x : Str}
theorem ye_globI {i : Int} (h : ∃ t, X.mg x = some (.int i t)) (hg : Gl X x := by rfl) (hd : (x == ("__debug__" : Str)) = false := by decide) : YE X ce W (.Name x pos) (sC (.int i)) := by
  obtain ⟨t, h⟩ := h
  exact ye_con (pe_glob (v := .int i) hg h ⟨t, rfl⟩ hd) fun _ _ _ => .int _
theorem ye_globS {i : Str} (h : ∃ t, X.mg x = some (.str i t)) (hg : Gl X x := by rfl) (hd : (x == ("__debug__" : Str)) = false := by decide) : YE X ce W (.Name x pos) (sC (.str i)) := by
  obtain ⟨t, h⟩ := h
  exact ye_con (pe_glob (v := .str i) hg h ⟨t, rfl⟩ hd) fun _ _ _ => .str _
theorem pe_cls {C : Addr} (h : X.mg x = some (.ref C)) (hg : Gl X x := by rfl) (hd : (x == ("__debug__" : Str)) = false := by decide) : PE X (.Name x pos) (tC (.ref C)) := pe_glob hg h rfl hd
/-- list + list, as a new list -/
def sCat (a b : ES) : LS := fun ρ dr => (a ρ dr).bind fun x dr1 => (b ρ dr1).bind fun y dr2 => match x, y with
  | .lst l, .lst m => if l.length + m.length ≤ sizeLine then .ok (l ++ m) dr2 else .fail
  | _, _ => .fail
theorem yf_cat (ya : YB X ce W a ea) (yb : YB X ce W b eb) : YF X ce W (.BinOp a .Add b pos) (sCat ea eb) := by
  refine pe_imp (pe_op op_cat ya yb) fun σ H Q ⟨g, ρ, dr, S, P⟩ => ?_
  refine ⟨g, ρ, dr, S, (Post.bind P).mono fun d1 dr1 H1 _ E1 S1 P1 v1 R1 => ⟨g, ρ, dr1, S1, (Post.bind P1).mono fun d2 dr2 H2 _ E2 S2 P2 v2 R2 => ?_⟩⟩
  split at P2
  case h_2 => exact P2.elim
  case h_1 l m =>
  split at P2
  case isFalse => exact P2.elim
  case isTrue hz =>
  obtain ⟨p, xs, rfl, z1, s1, r1⟩ := (R1.step S1 E2).lst
  obtain ⟨q, ys, rfl, z2, s2, r2⟩ := R2.lst
  have hz' : xs.length + ys.length ≤ sizeLine := by rw [r1.length, r2.length]; exact hz
  refine ⟨p, q, xs, ys, rfl, rfl, s1, s2, hz', fun r hr => ?_⟩
  have E3 : Ext g.L H H2 := E1.trans E2
  exact P2 _ (.new hr) (S2.new hr) r _ (E3.back hr fun z => S2.gk.not hr z.dl) (S2.gk.not hr) upd_same (by rw [List.length_append]; exact hz') (S2.lstF hr (r1.append r2))
end
theorem Df.as {P : Program} {w : World} {K : PySem.W.Frag} {mg : Str → Option Value} {base : Heap} {ce : Ce} {nm nm' q : Str} {st : Stmt} {ps : List Str} {k : Nat} {h : FS} (d : Df P w K mg base ce nm q st ps k h) (e : mg nm' = mg nm) : Df P w K mg base ce nm' q st ps k h := by
  obtain ⟨f, fd, h1, h2⟩ := d.ex
  exact ⟨f, fd, e.trans h1, h2⟩
theorem Df.mono {P : Program} {w : World} {K : PySem.W.Frag} {mg : Str → Option Value} {base : Heap} {ce : Ce} {nm q : Str} {st : Stmt} {ps : List Str} {j k : Nat} {h : FS} (d : Df P w K mg base ce nm q st ps j h) (e : j ≤ k) : Df P w K mg base ce nm q st ps k h := by
  obtain ⟨f, fd, h1, h2, h3, h4⟩ := d.ex
  exact ⟨f, fd, h1, h2, h3, h4.mono e⟩
/-- what is known of an own class of errors -/
structure ErC (K : PySem.W.Frag) (C : Addr) : Prop where
  is : (PySem.W.clsIn K C).isSome = true
  ty : PySem.W.typeIn K (.ref C) = some (.type "type")
  ex : ExcC K C
  xc : PySem.W.excIn K C [.type "ValueError", .type "Exception", .type "BaseException", .type "object"] "ValueError.__new__" = true
  kp : PySem.W.keepIn K (.ref C) = true
theorem sub_no {K : PySem.W.Frag} {C : Addr} {k : String} (hk : k ∈ ["NoneType", "bool", "int", "str", "tuple", "list", "dict"]) : PySem.W.subIn K (.type k) (.ref C) = some false := by
  simp only [List.mem_cons, List.not_mem_nil, or_false] at hk
  rcases hk with rfl | rfl | rfl | rfl | rfl | rfl | rfl <;> rfl
theorem kit_no {K : PySem.W.Frag} {C : Addr} {k : String} (hc : ErC K C) (hk : k ∈ ["NoneType", "bool", "int", "str", "tuple", "list", "dict"]) : PySem.W.kitOne K (.type k) (.ref C) = some false := by
  show (if (Value.type k == Value.ref C) = true then some true else if ((PySem.W.clsIn K C).isSome && PySem.W.typeIn K (.ref C) == some (.type "type")) = true then PySem.W.subIn K (.type k) (.ref C) else none) = some false
  rw [if_neg (by intro z; cases z), hc.is, hc.ty, if_pos (by rfl)]
  exact sub_no hk
theorem kit_ref {K : PySem.W.Frag} {C D : Addr} {b : Bool} (hc : ErC K C) (hs : PySem.W.subIn K (.ref D) (.ref C) = some b) (hb : D = C → b = true) : PySem.W.kitOne K (.ref D) (.ref C) = some b := by
  show (if (Value.ref D == Value.ref C) = true then some true else if ((PySem.W.clsIn K C).isSome && PySem.W.typeIn K (.ref C) == some (.type "type")) = true then PySem.W.subIn K (.ref D) (.ref C) else none) = some b
  by_cases e : D = C
  · subst e
    rw [if_pos (by simp), hb rfl]
  · rw [if_neg (by simpa using e), hc.is, hc.ty, if_pos (by rfl)]
    exact hs
theorem isC_own {K : PySem.W.Frag} {ce : Ce} {R : Nat → Nat → Bool} {n c : Nat} (hc : ErC K (ce.cls c)) (hs : ∀ m, m < n → ErC K (ce.cls m) ∧ PySem.W.subIn K (.ref (ce.cls m)) (.ref (ce.cls c)) = some (R m c) ∧ (ce.cls m = ce.cls c → R m c = true)) : IsC K ce (isE R n c) (.ref (ce.cls c)) := ⟨fun d b h => by
  cases d with
  | err m fn fs =>
    unfold isE at h
    split at h
    · rename_i e
      cases e
      split at h
      · rename_i hm
        cases h
        obtain ⟨h1, h2, h3⟩ := hs _ hm
        exact .inr ⟨_, rfl, kit_ref hc h2 h3, h1.ex⟩
      · cases h
    · cases h
    · cases h
    · cases h
    · rename_i h1 h2 h3 h4
      exact absurd rfl (h2 _ _ _)
  | draw => cases h
  | scr _ => cases h
  | non => cases h; exact .inl ⟨_, rfl, kit_no hc (by decide)⟩
  | bl x => cases h; exact .inl ⟨_, rfl, kit_no hc (by decide)⟩
  | int x => cases h; exact .inl ⟨_, rfl, kit_no hc (by decide)⟩
  | str x => cases h; exact .inl ⟨_, rfl, kit_no hc (by decide)⟩
  | tup x => cases h; exact .inl ⟨_, rfl, kit_no hc (by decide)⟩
  | lst x => cases h; exact .inl ⟨_, rfl, kit_no hc (by decide)⟩
  | dic x y => cases h; exact .inl ⟨_, rfl, kit_no hc (by decide)⟩⟩
end TP

set_option Elab.async false
set_option linter.all false
set_option maxRecDepth 100000
set_option maxHeartbeats 4000000
/-! TP, part 17: dicts displayed; constants that are tuples; three stored at once. -/
namespace TP
open PySem L2
/-- pairs of a dict and what they stand for -/
abbrev KR (K : PySem.W.Frag) (ce : Ce) (L : Lx) (H : Hp) (A : Addr → Prop) (kvs : List (Key × V)) (l : List (Key × D)) : Prop := Paired (fun a b => a.1 = b.1 ∧ Rep K ce L H A a.2 b.2) kvs l
def putP (l : List (Key × D)) (k : Key) (d : D) : List (Key × D) := if (l.any fun kv => decide (kv.1 = k)) = true then l.map (fun kv => if kv.1 = k then (kv.1, d) else kv) else l ++ [(k, d)]
def mkD (ps : List (Key × D)) : List (Key × D) := ps.foldl (fun acc kv => putP acc kv.1 kv.2) []
def dicOf (l : List (Key × D)) : D := .dic (l.map (·.1)) (l.map (·.2))
def sPrs : List (ES × ES) → List Sl → Dr → Res (List (Key × D))
  | [], _, dr => .ok [] dr
  | (k, v) :: r, ρ, dr => (k ρ dr).bind fun x dr1 => (v ρ dr1).bind fun y dr2 => (sPrs r ρ dr2).bind fun ps dr3 => match dKey x with
    | some kk => .ok ((kk, y) :: ps) dr3
    | none => .fail
def sDict (l : List (ES × ES)) : ES := fun ρ dr => (sPrs l ρ dr).bind fun ps dr1 => .ok (dicOf (mkD ps)) dr1
section
variable {K : PySem.W.Frag} {ce : Ce} {L : Lx} {H H' : Hp} {A A' : Addr → Prop} {g : Gm} {σ : St} {ρ : List Sl} {dr : Dr} {W : WX}
theorem KR.mono {kvs : List (Key × V)} {l : List (Key × D)} (r : KR K ce L H A kvs l) (e : ∀ b o, ¬ A b → H b = some o → NT o → H' b = some o) (s : ∀ b, A' b → A b ∨ Nn (H b)) : KR K ce L H' A' kvs l := paired_imp r fun _ _ h => ⟨h.1, h.2.mono e s⟩
theorem KR.append {a c : List (Key × V)} {b d : List (Key × D)} (r : KR K ce L H A a b) (q : KR K ce L H A c d) : KR K ce L H A (a ++ c) (b ++ d) := by
  unfold KR at *
  induction r with
  | nil => exact q
  | cons h t ih => exact .cons h ih
theorem KR.put {kvs : List (Key × V)} {l : List (Key × D)} (r : KR K ce L H A kvs l) (k : Key) {v : V} {d : D} (q : Rep K ce L H A v d) : KR K ce L H A (putK kvs k v) (putP l k d) := by
  have any : ∀ {a : List (Key × V)} {b : List (Key × D)}, KR K ce L H A a b → (a.any fun kv => decide (kv.1 = k)) = b.any fun kv => decide (kv.1 = k) := fun r => by
    unfold KR at r
    induction r with
    | nil => rfl
    | cons h t ih => rw [List.any_cons, List.any_cons, ih, h.1]
  unfold putK putP
  rw [any r]
  split
  · unfold KR at *
    clear any
    rename_i hh
    clear hh
    induction r with
    | nil => exact .nil
    | @cons a b as bs h t ih =>
      refine .cons ?_ ih
      obtain ⟨a1, a2⟩ := a
      obtain ⟨b1, b2⟩ := b
      obtain ⟨e, h2⟩ := h
      simp only at e h2
      subst e
      by_cases z : a1 = k
      · simp only [z, if_true]
        exact ⟨trivial, q⟩
      · simp only [z, if_false]
        exact ⟨trivial, h2⟩
  · exact r.append (.cons ⟨rfl, q⟩ .nil)
theorem KR.merge {kvs : List (Key × V)} {l : List (Key × D)} (r : KR K ce L H A kvs l) : KR K ce L H A (mergeK [] kvs) (mkD l) := by
  have go : ∀ {a : List (Key × V)} {b : List (Key × D)} {x : List (Key × V)} {y : List (Key × D)}, KR K ce L H A a b → KR K ce L H A x y → KR K ce L H A (mergeK x a) (b.foldl (fun acc kv => putP acc kv.1 kv.2) y) := fun {a b x y} r q => by
    unfold KR at r
    induction r generalizing x y with
    | nil => exact q
    | @cons p q' as bs h t ih =>
      have := q.put p.1 h.2
      rw [show putP y p.1 q'.2 = putP y q'.1 q'.2 by rw [h.1]] at this
      exact ih this
  exact go r .nil
theorem KR.dic {kvs : List (Key × V)} {l : List (Key × D)} (r : KR K ce L H A kvs l) : kvs = (l.map (·.1)).zip (kvs.map (·.2)) ∧ (l.map (·.1)).length = (kvs.map (·.2)).length ∧ Reps K ce L H A (kvs.map (·.2)) (l.map (·.2)) := by
  unfold KR at r
  induction r with
  | nil => exact ⟨rfl, rfl, .nil⟩
  | @cons a b as bs h t ih =>
    obtain ⟨h1, h2, h3⟩ := ih
    refine ⟨?_, ?_, .cons h.2 h3⟩
    · rw [List.map_cons, List.map_cons, List.zip_cons_cons, ← h1, ← h.1]
    · rw [List.map_cons, List.map_cons, List.length_cons, List.length_cons, h2]
/-- what holds of a computation holds beside a new object that is spared -/
theorem Post.spare {α : Type} {r : Res α} {ok : α → Dr → Hp → Prop} {p : Addr} {o : HO} (S : SR K ce g H σ ρ dr) (hp : H p = none) (P : Post K ce W g σ ρ H r ok) :
    Post K ce W { g with A := fun a => g.A a ∨ a = p } σ ρ (upd H p o) r fun a dr' H2 => Ext g.L H H2 ∧ ∀ H3, Ext g.L H H3 → SR K ce g H3 σ ρ dr' → ok a dr' H3 := by
  have tr : ∀ {H2}, Ext g.L (upd H p o) H2 → Ext g.L H H2 := fun e => Ext.trans (.new hp) e
  cases r with
  | ok a dr' => exact fun H2 E2 S2 => ⟨tr E2, fun H3 e s => P H3 e s⟩
  | exc x dr' => exact fun H2 c dd E2 S2 X => P H2 c dd (tr E2) (S.step (tr E2) S2.gk) (X.mono (fun _ _ n e _ => e) fun b q => .inl (.inl q))
  | fail => exact P
theorem prs_run : ∀ (l : List (ES × ES)) {H : Hp} {dr : Dr} {g : Gm} {Q : List (V × V) → Hp → Prop}, SR K ce g H σ ρ dr → Post K ce W g σ ρ H (sPrs l ρ dr) (fun ps _ H' => ∀ kvs : List (Key × V), KR K ce g.L H' g.A kvs ps → Q (kvs.map fun kv => (kV kv.1, kv.2)) H') →
    tPairs (l.map fun p => (tE K ce W p.1, tE K ce W p.2)) σ H Q
  | [], _, _, _, _, S, P => Post.ok P S [] .nil
  | (k, v) :: r, H, dr, g, Q, S, P => by
    refine ⟨g, ρ, dr, S, (Post.bind P).mono fun d dr1 H1 _ E1 S1 P1 x R1 => ⟨g, ρ, dr1, S1, (Post.bind P1).mono fun d2 dr2 H2 _ E2 S2 P2 y R2 => ?_⟩⟩
    refine prs_run r S2 ((Post.bind P2).mono fun ps dr3 H3 _ E3 S3 P3 kvs Rs => ?_)
    cases hk : dKey d with
    | none => rw [hk] at P3; exact P3.elim
    | some kk =>
      rw [hk] at P3
      have e := dKey_v hk (RepB.of (S2.rep E3 (S1.rep E2 R1)))
      have q := Post.ok P3 S3 ((kk, y) :: kvs) (.cons ⟨rfl, S2.rep E3 R2⟩ Rs)
      rw [List.map_cons, ← e] at q
      exact q
end
section
variable {X : Cx} {ce : Ce} {W : WX} {pos : Pos}
/-- what is told is from now on only read -/
theorem pe_freeze {e : Expr} {t : TE} (h : PE X e t) : PE X e (fun σ H Q => t σ H fun v H' => ∃ d u, v = .ref d ∧ H' d = some u ∧ Mut (some u) ∧ ∀ od, Q v (upd H' d (.frz od u))) := by
  refine ⟨fun pins s σ H Q I hw => ?_⟩
  refine thn (h.run pins s σ H _ I hw) fun v s1 ⟨x, H1, I2, r, d, u, e1, hd, mu, q⟩ => ?_
  obtain ⟨od, I3⟩ := I2.lock hd mu
  exact ⟨x, _, I3, r, q od⟩
theorem call_freeze {f : Value} {r : List V → Hp → VK → Prop} (h : CallR X f r) : CallR X f (fun vs H Q => r vs H fun v H' => ∃ d u, v = .ref d ∧ H' d = some u ∧ Mut (some u) ∧ ∀ od, Q v (upd H' d (.frz od u))) := by
  intro pins s σ H xs us Q I hv hw
  refine thn (h pins s σ H xs us _ I hv hw) fun v s1 ⟨x, H1, I2, r, d, u, e1, hd, mu, q⟩ => ?_
  obtain ⟨od, I3⟩ := I2.lock hd mu
  exact ⟨x, _, I3, r, q od⟩
/-- {k: v, ..} -/
theorem ye_dict {keys : List (Option Expr)} {values : List Expr} {l : List (ES × ES)} (h : PPs X pos keys values (l.map fun p => (tE X.K ce W p.1, tE X.K ce W p.2))) (hall : keys.all (·.isSome) = true := by rfl) (hl : keys.length = values.length := by rfl) (h0 : keys ≠ [] := by intro z; cases z) (h15 : keys.length ≤ 15 := by decide)
    (hll : l.length ≤ 15 := by decide) : YE X ce W (.Dict keys values pos) (sDict l) := by
  refine pe_imp (pe_freeze (pe_disp h hall hl h0 h15)) fun σ H Q ⟨g, ρ, dr, S, P⟩ p hp => ?_
  have hd := S.gk.not hp
  have S' := S.grow (.of hp) (.new (o := .dK []) hp) (S.gk.new hp) ⟨_, upd_same, .dK⟩
  refine prs_run l S' ((Post.spare S hp (Post.bind P)).mono fun ps dr1 H1 e1 E1 S1 ⟨E0, P1⟩ kvs Rs => ?_)
  have h1 : H1 p = some (.dK []) := E1 p _ upd_same (fun z => hd z.dl) .dK
  have len : ∀ (l : List (ES × ES)) (dr dr1 : Dr) (ps : List (Key × D)), sPrs l ρ dr = .ok ps dr1 → ps.length = l.length := by
    intro l
    induction l with
    | nil => intro dr dr1 ps h; cases h; rfl
    | cons a r ih =>
      intro dr dr1 ps h
      obtain ⟨k, v⟩ := a
      unfold sPrs at h
      cases hk : k ρ dr with
      | ok x d1 =>
        simp only [hk, Res.bind] at h
        cases hv : v ρ d1 with
        | ok y d2 =>
          simp only [hv] at h
          cases hr : sPrs r ρ d2 with
          | ok qs d3 =>
            simp only [hr] at h
            split at h
            · cases h
              rw [List.length_cons, List.length_cons, ih _ _ _ hr]
            · cases h
          | exc _ _ => simp only [hr] at h; cases h
          | fail => simp only [hr] at h; cases h
        | exc _ _ => simp only [hv] at h; cases h
        | fail => simp only [hv] at h; cases h
      | exc _ _ => simp only [hk, Res.bind] at h; cases h
      | fail => simp only [hk, Res.bind] at h; cases h
  refine ⟨h1, kvs, rfl, ?_, ?_⟩
  · have := Paired.length Rs
    rw [this, len l dr dr1 ps e1]
    exact hll
  · have far : ∀ b o, ¬ (g.A b ∨ b = p) → H1 b = some o → NT o → upd H1 p (.dK (mergeK [] kvs)) b = some o := fun b o n e _ => by rw [upd_ne fun z => n (.inr z)]; exact e
    have Rm := (KR.merge Rs).mono (A' := g.A) far fun b q => .inl (.inl q)
    refine ⟨p, _, rfl, upd_same, trivial, fun od => ?_⟩
    rw [upd_upd]
    have E2 : Ext g.L H (upd H1 p (.frz od (.dK (mergeK [] kvs)))) := fun b o e n t => by
      rw [upd_ne (ne_of_none e hp)]
      exact E0 b o e n t
    have S2 := S.step E2 (GOk.upd S1.gk hd fun φ z => by rw [h1] at z; cases z)
    have far2 : ∀ b o, ¬ (g.A b ∨ b = p) → H1 b = some o → NT o → upd H1 p (.frz od (.dK (mergeK [] kvs))) b = some o := fun b o n e _ => by rw [upd_ne fun z => n (.inr z)]; exact e
    have Rm2 := (KR.merge Rs).mono (A' := g.A) far2 fun b q => .inl (.inl q)
    obtain ⟨k1, k2, k3⟩ := Rm2.dic
    refine Post.ok (P1 _ E2 S2) S2 _ ?_
    exact .dic ⟨od, by rw [upd_same, ← k1]⟩ (S.out hp) k2 k3
/-- {} -/
theorem ye_dict0 : YE X ce W (.Dict [] [] pos) (sC (.dic [] [])) := by
  refine ⟨fun pins s σ H Q I ⟨g, ρ, dr, S, P⟩ => ?_⟩
  have hn := I.hok.fresh (Nat.le_refl s.heap.objs.size)
  have I1 := I.laid (a := s.heap.objs.size) (o := .dK []) (h' := s.heap.push { cls := .type "dict", data := .dict #[] }) (t' := s.toks) (fun _ _ q => Heap.get?_push_of_some _ q) (Nat.le_refl _) (dk_empty s.heap I.big)
  obtain ⟨od, I2⟩ := I1.lock upd_same trivial
  rw [upd_upd] at I2
  exact wpAny_Dict_empty ⟨.ref _, _, I2, rfl, P _ (.new hn) (S.new hn) _ (.dic (ks := []) (us := []) ⟨od, upd_same⟩ (S.out hn) rfl .nil)⟩
/-- a constant of the top that is a tuple of ints -/
theorem ye_globT {x : Str} {is : List Int} (h : ∃ a, X.mg x = some (.ref a) ∧ ∀ H, SqT X.K H a (is.map V.int)) (hz : is.length ≤ sizeLine := by decide) (hg : Gl X x := by rfl) (hd : (x == ("__debug__" : Str)) = false := by decide) : YE X ce W (.Name x pos) (sC (.tup (is.map D.int))) := by
  obtain ⟨a, h, hs⟩ := h
  exact ye_con (pe_glob (v := .ref a) hg h rfl hd) fun L H A => .tup ⟨by rw [List.length_map]; exact hz, .inr hs⟩ (reps_ints is)
end
def at3 (i j k l : Nat) : Nat → Nat := fun n => if n = i then l else if n = j then l + 1 else if n = k then l + 2 else n
theorem par3_run {K : PySem.W.Frag} {ce : Ce} {W : WX} {i j k : Nat} {z : ZSs} (hij : i ≠ j) (hik : i ≠ k) (hjk : j ≠ k) (D : Ends) (σ : St) (H : Hp) (hz : ∀ ρ dr ss dr', z ρ dr = .ok ss dr' → ss.length = 3) (hI : i < σ.length) (hJ : j < σ.length) (hK : k < σ.length) (h : tS K ce W (sPar [i, j, k] z) D σ H) : tPar3 i j k (tZs K ce W z) D σ H := by
  obtain ⟨g, ρ, dr, S, P⟩ := h
  refine ⟨g, ρ, dr, [], [], S.len, by simpa using S, ?_⟩
  unfold sPar at P
  cases hr : z ρ dr with
  | fail => simp only [hr, Res.bind] at P; exact P
  | exc x dr1 => simp only [hr, Res.bind] at P; exact fun c dd H' e q r => P σ c dd H' e q r
  | ok ss dr1 =>
    simp only [hr, Res.bind] at P
    intro H' g' vs n kk hv T
    have h2 := hz _ _ _ _ hr
    match ss, vs, h2, hv with
    | [s1, s2, s3], [v1, v2, v3], _, _ =>
    refine ⟨v1, v2, v3, rfl, P _ H' g' n kk ?_⟩
    have hlen := S.len
    refine T.re (at3 i j k ρ.length) (by simp [hlen]) ?_ ?_
    · intro a b ha hb e
      simp only [List.zip_cons_cons, List.zip_nil_right, List.foldl_cons, List.foldl_nil, List.length_set] at ha hb
      unfold at3 at e
      split at e <;> split at e <;> (try split at e) <;> (try split at e) <;> (try split at e) <;> (try split at e) <;> omega
    · intro m s hs
      simp only [List.zip_cons_cons, List.zip_nil_right, List.foldl_cons, List.foldl_nil] at hs
      unfold at3
      by_cases e3 : m = k
      · subst e3
        rw [List.getElem?_set_self (by simp only [List.length_set]; omega)] at hs
        cases hs
        rw [if_neg (Ne.symm hik), if_neg (Ne.symm hjk), if_pos rfl]
        refine ⟨by rw [List.getElem?_append_right (by omega)]; simp, ?_⟩
        rw [List.getD, List.getElem?_set_self (by simp only [List.length_set]; exact hK), List.getD, List.getElem?_append_right (by omega), ← hlen]
        simp
      · rw [List.getElem?_set_ne (Ne.symm e3)] at hs
        by_cases e2 : m = j
        · subst e2
          rw [List.getElem?_set_self (by simp only [List.length_set]; omega)] at hs
          cases hs
          rw [if_neg (Ne.symm hij), if_pos rfl]
          refine ⟨by rw [List.getElem?_append_right (by omega)]; simp, ?_⟩
          rw [List.getD, List.getElem?_set_ne (Ne.symm e3), List.getElem?_set_self (by simp only [List.length_set]; exact hJ), List.getD, List.getElem?_append_right (by omega), ← hlen]
          simp
        · rw [List.getElem?_set_ne (Ne.symm e2)] at hs
          by_cases e1 : m = i
          · subst e1
            rw [List.getElem?_set_self (by omega)] at hs
            cases hs
            rw [if_pos rfl]
            refine ⟨by rw [List.getElem?_append_right (by omega)]; simp, ?_⟩
            rw [List.getD, List.getElem?_set_ne (Ne.symm e3), List.getElem?_set_ne (Ne.symm e2), List.getElem?_set_self hI, List.getD, List.getElem?_append_right (by omega), ← hlen]
            simp
          · rw [List.getElem?_set_ne (Ne.symm e1)] at hs
            have hm := (List.getElem?_eq_some_iff.mp hs).1
            rw [if_neg e1, if_neg e2, if_neg e3]
            refine ⟨by rw [List.getElem?_append_left hm]; exact hs, ?_⟩
            rw [List.getD, List.getElem?_set_ne (Ne.symm e3), List.getElem?_set_ne (Ne.symm e2), List.getElem?_set_ne (Ne.symm e1), List.getD, List.getElem?_append_left (by omega)]
theorem zc_len {za : ZS} {zs : ZSs} {n : Nat} (h : ∀ ρ dr ss dr', zs ρ dr = .ok ss dr' → ss.length = n) : ∀ ρ dr ss dr', zCons za zs ρ dr = .ok ss dr' → ss.length = n + 1 := fun ρ dr ss dr' e => by
  unfold zCons at e
  cases ha : za ρ dr with
  | ok a d1 =>
    simp only [ha, Res.bind] at e
    cases hb : zs ρ d1 with
    | ok b d2 =>
      simp only [hb] at e
      cases e
      rw [List.length_cons, h _ _ _ _ hb]
    | exc _ _ => simp only [hb] at e; cases e
    | fail => simp only [hb] at e; cases e
  | exc _ _ => simp only [ha, Res.bind] at e; cases e
  | fail => simp only [ha, Res.bind] at e; cases e
theorem ys_par3 {X : Cx} {ce : Ce} {W : WX} {i j l : Nat} {x y z : Str} {a b c : Expr} {za zb zc : ZS} {px py pz pt pos2 pos : Pos} {kt k2} (hc : X.calm = true) (hN : X.N.Nodup) (hi : X.N[i]? = some x) (hj : X.N[j]? = some y) (hl : X.N[l]? = some z) (hij : i ≠ j) (hil : i ≠ l) (hjl : j ≠ l)
    (hx : X.env.scope.names.lookup x = some .local) (hy : X.env.scope.names.lookup y = some .local) (hz : X.env.scope.names.lookup z = some .local) (ya : YZ X ce W a za) (yb : YZ X ce W b zb) (yc : YZ X ce W c zc)
    (hw : swappedStores [.Tuple [.Name x px, .Name y py, .Name z pz] kt pt] (.Tuple [a, b, c] k2 pos2) X.env = pure (some [x, y, z]))
    (hs : swapsWithSole [.Tuple [.Name x px, .Name y py, .Name z pz] kt pt] (.Tuple [a, b, c] k2 pos2) pos.line X.env = pure false := by rfl)
    (h1 : starEach (a :: [b, c]) X.env = (false, eval a X.env) :: starEach [b, c] X.env := by rfl) (h2 : starEach (b :: [c]) X.env = (false, eval b X.env) :: starEach [c] X.env := by rfl) (h3 : starEach (c :: []) X.env = (false, eval c X.env) :: starEach [] X.env := by rfl) :
    YS X ce W (.Assign [.Tuple [.Name x px, .Name y py, .Name z pz] kt pt] (.Tuple [a, b, c] k2 pos2) pos) (sPar [i, j, l] (zCons za (zCons zb (zCons zc zNil)))) :=
  ⟨fun pins s σ H D I h => (ps_par3 hc hN hi hj hl hij hil hjl hx hy hz (yzs_cons ya (yzs_cons yb (yzs_cons yc yzs_nil h3) h2) h1) hw hs).run pins s σ H D I
    (par3_run hij hil hjl D σ H (zc_len z2_len) (by rw [I.len]; exact (List.getElem?_eq_some_iff.mp hi).1) (by rw [I.len]; exact (List.getElem?_eq_some_iff.mp hj).1) (by rw [I.len]; exact (List.getElem?_eq_some_iff.mp hl).1) h)⟩
end TP

set_option Elab.async false
set_option linter.all false
set_option maxRecDepth 100000
set_option maxHeartbeats 4000000
/-! TP, part 18: _law_begun, law. -/
namespace TP
open PySem L2
def sScr (i : Nat) : LS := fun ρ dr => match ρ[i]? with
  | some (.val (.scr l)) => .ok (l.map D.int) dr
  | _ => .fail
def absI (i : Int) : Int := if i < 0 then -i else i
/-- the draws at the start -/
def largeL (ns : List Int) : List Int := (ns.filter fun n => decide ((1000000000000000000 : Int) ≤ absI n)).map fun n => absI n - 1000000000000000000
def dr0 (ns : List Int) : Dr := ⟨largeL ns, 0, ns.map absI, 0⟩
def bgLarge : LS := sComp (sScr 0) (gN 2) (sT (sBin dGe (sCall dAbs (sCons (sVar 2) sNil)) (sBin dPow (sC (.int 10)) (sC (.int 18))))) (sBin dSub (sCall dAbs (sCons (sVar 2) sNil)) (sBin dPow (sC (.int 10)) (sC (.int 18)))) [2]
def bgCells : LS := sComp (sScr 0) (gN 2) cYes (sCall dAbs (sCons (sVar 2) sNil)) [2]
theorem cGo_pure {b : GS} {c : BS} {e : ES} {ρ : List Sl} {dr : Dr} {p : D → Bool} {f : D → D} : ∀ (xs acc : List D), (∀ x ∈ xs, ∃ ρ1, b x ρ = some ρ1 ∧ c ρ1 dr = .ok (p x) dr ∧ (p x = true → e ρ1 dr = .ok (f x) dr)) → cGo b c e ρ xs acc dr = .ok (acc ++ (xs.filter p).map f) dr
  | [], acc, _ => by rw [List.filter_nil, List.map_nil, List.append_nil]; rfl
  | x :: xs, acc, h => by
    obtain ⟨ρ1, h1, h2, h3⟩ := h x (List.mem_cons_self ..)
    unfold cGo
    simp only [h1, h2]
    cases hp : p x with
    | true =>
      simp only [hp, h3 hp]
      rw [cGo_pure xs _ fun y hy => h y (List.mem_cons_of_mem _ hy), List.filter_cons_of_pos hp, List.map_cons, List.append_assoc]
      rfl
    | false =>
      simp only [hp]
      rw [cGo_pure xs _ fun y hy => h y (List.mem_cons_of_mem _ hy), List.filter_cons_of_neg (by simp [hp])]
theorem bg_large (ns : List Int) (dr : Dr) (hz : ns.length ≤ 63) : bgLarge [.val (.scr ns), .un, .un] dr = .ok ((largeL ns).map D.int) dr := by
  show (if (ns.map D.int).length ≤ sizeLine then _ else _) = _
  rw [if_pos (by rw [List.length_map, sizeLine_eq]; omega)]
  rw [cGo_pure (p := fun d => match d with | .int n => decide ((1000000000000000000 : Int) ≤ absI n) | _ => false) (f := fun d => match d with | .int n => .int (absI n - 1000000000000000000) | d => d)]
  · unfold largeL
    rw [List.nil_append, List.filter_map, List.map_map, List.map_map]
    rfl
  · intro x hx
    obtain ⟨n, _, rfl⟩ := List.mem_map.mp hx
    exact ⟨_, rfl, rfl, fun _ => rfl⟩
theorem bg_cells (ns : List Int) (dr : Dr) (s : Sl) (hz : ns.length ≤ 63) : bgCells [.val (.scr ns), s, .un] dr = .ok ((ns.map absI).map D.int) dr := by
  show (if (ns.map D.int).length ≤ sizeLine then _ else _) = _
  rw [if_pos (by rw [List.length_map, sizeLine_eq]; omega)]
  rw [cGo_pure (p := fun _ => true) (f := fun d => match d with | .int n => .int (absI n) | d => d)]
  · rw [List.nil_append, List.filter_eq_self.mpr (fun _ _ => rfl), List.map_map, List.map_map]
    rfl
  · intro x hx
    obtain ⟨n, _, rfl⟩ := List.mem_map.mp hx
    exact ⟨_, rfl, rfl, fun _ => rfl⟩
section
variable {X : Cx} {ce : Ce} {W : WX} {x : Str} {p pos : Pos} {i : Nat} {cl : Bool}
theorem yi_scr {tg : Expr} (hv : PE X (.Name x p) (tVar i)) : YI X ce W cl tg (.Name x p) (sScr i) := by
  refine ⟨_, pi_list hv, fun σ H R g ρ dr S P => ?_⟩
  unfold sScr at P
  split at P
  case h_2 => exact P.elim
  case h_1 l hl =>
  obtain ⟨v, hv', r⟩ := sl_at S hl (by simp)
  cases r with
  | scr h =>
    refine ⟨_, hv', _, rfl, ⟨_, h.sq⟩, Post.ok P S _ (itl_ok (cl_B S) (reps_ints l) fun A' H' k => ?_)⟩
    rcases h.2 with ⟨r, n⟩ | q
    · have nB : ∀ b, ¬ g.A b → ¬ (if cl = true then Pl g.L else g.A) b := fun b n z => n (by cases cl <;> first | exact z | exact S.pl _ z)
      rcases r with r | ⟨o, r⟩
      · exact .inl (.inl (k.stay _ _ (nB _ n) r .lst))
      · exact .inl (.inr ⟨o, k.stay _ _ (nB _ n) r .frz⟩)
    · exact q H'
/-- what is known of a heap with the draws in it -/
structure Begun (K : PySem.W.Frag) (ce : Ce) (H H' : Hp) (lo : Lo) (ns : List Int) : Prop where
  ext : Ext ⟨none, ce.T⟩ H H'
  tab : LamX.Tabs ce.T H'
  n1 : Nn (H lo.d)
  n2 : Nn (H lo.lg)
  n3 : Nn (H lo.cl)
  gk : GOk0 K H' (some lo) (dr0 ns)
def spBegun (K : PySem.W.Frag) (ce : Ce) : Sp := fun vs H Q _ => ∃ (a : Addr) (ns : List Int), vs = [.ref a] ∧ ScrAt K H (fun b => b ∈ ce.T.map (·.1)) a (ns.map V.int) ∧ LamX.Tabs ce.T H ∧ ns.length ≤ 63 ∧ ∀ lo H', Begun K ce H H' lo ns → Q (.ref lo.d) H'
theorem largeL_len (ns : List Int) : (largeL ns).length ≤ ns.length := by
  unfold largeL
  rw [List.length_map]
  exact List.length_filter_le _ _
theorem ints_of {K : PySem.W.Frag} {L : Lx} {H : Hp} {A : Addr → Prop} : ∀ {xs : List V} {l : List Int}, Reps K ce L H A xs (l.map D.int) → xs = l.map V.int
  | _, [], .nil => rfl
  | _, _ :: _, .cons h t => by
    cases h
    rw [ints_of t]
    rfl
/-- return {'large': large, 'rest': 0, 'cells': [..], 'turn': 0} -/
theorem ps_begun {comp : Expr} {j1 j2 j3 j4 j5 j6 : Nat} {q1 q2 q3 q4 q5 q6 q7 q8 : Pos} {y : Str} (hv : PE X (.Name y p) (tVar 1)) (yc : YF X ce W0 comp bgCells) :
    PS X (.Return (some (.Dict [some (.Constant (.str "large") j1 q1), some (.Constant (.str "rest") j2 q2), some (.Constant (.str "cells") j3 q3), some (.Constant (.str "turn") j4 q4)] [.Name y p, .Constant (.int 0) j5 q5, comp, .Constant (.int 0) j6 q6] q7)) q8)
      (fun DD σ H => ∃ (g : Gm) (s : Sl) (dr : Dr) (ns : List Int), SR X.K ce g H σ [.val (.scr ns), .own ((largeL ns).map D.int), .un] dr ∧ g.L.lo = none ∧ ns.length ≤ 63 ∧ ∀ lo H', Begun X.K ce g.H0 H' lo ns → DD.rt (.ref lo.d) H') := by
  refine ps_imp (ps_ret (pe_disp (pps_cons pe_str hv (pps_cons pe_str pe_int (pps_cons pe_str yc (pps_cons pe_str pe_int pps_nil)))) rfl rfl (by intro z; cases z) (by show 4 ≤ 15; decide))) fun DD σ H ⟨g, _, dr, ns, S, hL, hz, k⟩ pd hp => ?_
  have hd := S.gk.not hp
  have S' := S.grow (.of hp) (.new (o := .dK []) hp) (S.gk.new hp) ⟨_, upd_same, .dK⟩
  obtain ⟨lg, xs, hv1, hz1, h1, h2, h3, _⟩ := S'.own_at (i := 1) (l := (largeL ns).map D.int) rfl
  have exs := ints_of h3
  subst exs
  obtain ⟨_, hv1', own⟩ := sl_at S (i := 1) (s := .own ((largeL ns).map D.int)) rfl (by simp)
  rw [hv1] at hv1'
  cases hv1'
  obtain ⟨lg', xs', e1, o1, o2, o3, o4, o5, o6⟩ := own
  cases e1
  refine ⟨_, hv1, ⟨_, _, dr, S', ?_⟩⟩
  rw [bg_cells ns dr _ hz]
  intro H2 E2 S2 cl ys hn hdl hcl hzl Rs
  have eys := ints_of Rs
  subst eys
  have np : H2 pd = some (.dK []) := E2 _ _ upd_same (fun z => hd z.dl) .dK
  have nl : H2 lg = some (.lst ((largeL ns).map V.int)) := E2 _ _ h1 h2 .lst
  have ep : lg ≠ pd := fun z => by rw [z, hp] at o5; cases o5
  have ec : cl ≠ pd := fun z => hn _ (by rw [z]; exact upd_same) .dK
  have el : cl ≠ lg := fun z => hn _ (by rw [z]; exact h1) .lst
  refine ⟨np, [(.inr "large", .ref lg), (.inr "rest", .int 0), (.inr "cells", .ref cl), (.inr "turn", .int 0)], rfl, by show 4 ≤ 15; decide, ?_⟩
  have gL : g.L = ⟨none, ce.T⟩ := by
    have := S.tt
    cases hg : g.L with
    | mk a b => rw [hg] at hL this; simp only at hL this; rw [hL, this]
  refine k ⟨pd, lg, cl⟩ _ ⟨?_, ?_, ?_, o3, ?_, upd_same, ?_, ?_, ec, el, ?_, ?_⟩
  · intro b o hb n t
    rw [← gL] at n
    have hH := S.ext b o hb n t
    have hne : b ≠ pd := fun z => by rw [z, hp] at hH; cases hH
    rw [upd_ne hne]
    exact E2 b o (by rw [upd_ne hne]; exact hH) n t
  · have := (GOk.upd S2.gk (o := .dK (drK ⟨pd, lg, cl⟩ (dr0 ns))) hd fun φ z => by rw [np] at z; cases z).2
    rw [S2.tt] at this
    exact this
  · exact S.ext.back hp fun z => hd z.dl
  · intro o e t
    have hH := S.ext cl o e (fun z => hdl z.dl) t
    exact hn o (by rw [upd_ne ec]; exact hH) t
  · rw [upd_ne ep]; exact nl
  · rw [upd_ne ec]; exact hcl
  · exact Nat.le_trans (largeL_len ns) hz
  · show (ns.map absI).length ≤ 63
    rw [List.length_map]; exact hz
end
section
variable {P : Program} {w : World} {K : PySem.W.Frag} {mg : Str → Option Value} {base : Heap} {ce : Ce} {nm q : Str} {st : Stmt} {k : Nat} {cd : Value}
/-- the def that begins the draws keeps its promise -/
theorem begun_ok {s1 s2 : Stmt} (t : Tx K mg nm q st cd) (S : FnScope ["script", "large", "cell"] ["script"] (defScope st)) (hb : defBody st = [s1, s2])
    (h1 : ∀ (f : Addr) (A : Around) (outer : List Env) (s : Shared) (H : Hp) (E : XK), Cn (Xf P w K mg base ["script", "large", "cell"] q st f cd A outer s H E) W0 k → YS (Xf P w K mg base ["script", "large", "cell"] q st f cd A outer s H E) ce W0 s1 (sSet 1 (zF bgLarge)))
    (h2 : ∀ (f : Addr) (A : Around) (outer : List Env) (s : Shared) (H : Hp) (E : XK), Cn (Xf P w K mg base ["script", "large", "cell"] q st f cd A outer s H E) W0 k → PS (Xf P w K mg base ["script", "large", "cell"] q st f cd A outer s H E) s2
      (fun DD σ H => ∃ (g : Gm) (s : Sl) (dr : Dr) (ns : List Int), SR K ce g H σ [.val (.scr ns), .own ((largeL ns).map D.int), .un] dr ∧ g.L.lo = none ∧ ns.length ≤ 63 ∧ ∀ lo H', Begun K ce g.H0 H' lo ns → DD.rt (.ref lo.d) H'))
    (hbd : ∀ (kV doc pm : Value) (an : Option Addr) (cdv ct : Value) (us : List Value), us.length = 1 → bindArgs (PySem.W.fnOf q q (defArgs st) (defBody st) (defScope st) .none kV doc pm an cdv ct) ⟨us, []⟩ = pure ((["script"] : List Str).zip us)) :
    ∃ f fd, mg nm = some (.ref f) ∧ Fun K q q st f fd ∧ Binds K fd ["script"] [] ∧ FnOk P w K mg base (L2.CX P w) (k + 1) f fd ["script"] (spBegun K ce) := by
  obtain ⟨f, oc, od, kV, doc, pm, an, ct, osl, e1, e2, e3, e4⟩ := t.ex
  refine ⟨f, _, e1, fun_mk e2 e3 e4, (fun_mk e2 e3 e4).binds hbd, fn_of e2 e3 S (fun vs H Q E h => ?_) fun A outer s H vs Q E hr h => ?_⟩
  · obtain ⟨a, ns, rfl, _⟩ := h
    rfl
  · have c : Cn (Xf P w K mg base ["script", "large", "cell"] q st f cd A outer s H E) W0 k := ⟨⟨rfl, by
      have := hr.un
      show (A.deeper _).units + 65 < cLine
      omega, S.nd⟩, fun σ => passW0 σ, hr, passes_of rfl⟩
    rw [hb]
    refine ⟨_, pss_cons (h1 f A outer s H E c) (pss_one (h2 f A outer s H E c)), ?_⟩
    obtain ⟨a, ns, rfl, hs, hT, hz, kk⟩ := h
    have S0 : SR K ce ⟨⟨none, ce.T⟩, H, fun b => b ∈ ce.T.map (·.1), fun b => b ∈ ce.T.map (·.1)⟩ H (L2.start ["script", "large", "cell"] [.ref a]) ([D.scr ns].map Sl.val ++ List.replicate 2 .un) (dr0 []) :=
      SR.start0 (N := ["script", "large", "cell"]) (L := ⟨none, ce.T⟩) rfl (.cons (.scr hs) .nil) (fun a h => .inl (.inr h)) (fun a h => h.elim (fun z => z.elim) id) (fun lo z => by cases z) ⟨trivial, hT⟩
    refine ⟨_, _, dr0 [], S0, ?_⟩
    show SP' K ce W0 _ H (sSet 1 (zF bgLarge) [.val (.scr ns), .un, .un] (dr0 [])) _
    unfold sSet zF
    rw [bg_large ns _ hz]
    intro σ' H' g' n kg S'
    refine ⟨g', .un, dr0 [], ns, S', ?_, hz, fun lo H2 B => kk lo H2 ?_⟩
    · rw [n.L]
    · rw [n.H0] at B
      exact B
/-- the ground at the draws' begin -/
theorem SR.law {N : List Str} {H H' : Hp} {a : Addr} {lo : Lo} {ns : List Int} (hs : ScrAt K H (fun b => b ∈ ce.T.map (·.1)) a (ns.map V.int)) (hT : LamX.Tabs ce.T H) (B : Begun K ce H H' lo ns) :
    SR K ce ⟨⟨some lo, ce.T⟩, H', Pl ⟨some lo, ce.T⟩, Pl ⟨some lo, ce.T⟩⟩ H' ((L2.start N [.ref a]).set 1 (some (.ref lo.d))) (([D.scr ns].map Sl.val ++ List.replicate (N.length - 1) Sl.un).set 1 (.val .draw)) (dr0 ns) := by
  obtain ⟨g1, g2, g3, g4, g5, g6, g7⟩ := id B.gk
  have notT : ∀ {p : Addr} {o : HO}, H' p = some o → NT o → p ∉ ce.T.map (·.1) := fun {p o} e t z => by
    obtain ⟨q, hq, eq⟩ := List.mem_map.mp z
    obtain ⟨ps, h1, _⟩ := B.tab q hq
    rw [eq, e] at h1
    cases h1
    exact t ps rfl
  have scr : ScrAt K H' (Pl ⟨some lo, ce.T⟩) a (ns.map V.int) := by
    refine ⟨hs.1, ?_⟩
    rcases hs.2 with ⟨r, n⟩ | k
    · refine .inl ⟨?_, ?_⟩
      · rcases r with r | ⟨o, r⟩
        · exact .inl (B.ext _ _ r (fun z => z.elim (fun z => z.elim) n) .lst)
        · exact .inr ⟨o, B.ext _ _ r (fun z => z.elim (fun z => z.elim) n) .frz⟩
      · rintro ((z | z) | z)
        · rcases r with r | ⟨o, r⟩
          · exact B.n1 _ (by rw [← z]; exact r) .lst
          · exact B.n1 _ (by rw [← z]; exact r) .frz
        · rcases r with r | ⟨o, r⟩
          · exact B.n2 _ (by rw [← z]; exact r) .lst
          · exact B.n2 _ (by rw [← z]; exact r) .frz
        · exact n z
    · exact .inr k
  have S0 := SR.start0 (K := K) (ce := ce) (N := N) (L := ⟨some lo, ce.T⟩) (A := Pl ⟨some lo, ce.T⟩) (vs := [.ref a]) (ds := [.scr ns]) (dr := dr0 ns) (H := H') rfl (.cons (.scr scr) .nil) (fun b h => .inl h) (fun b h => h)
    (fun lo' e z => by
      cases e
      rcases z with (z | z) | z
      · exact g4 z
      · exact g5 z
      · exact notT g3 .lst z) ⟨B.gk, B.tab⟩
  exact S0.setVal 1 (.draw rfl)
def spLaw (K : PySem.W.Frag) (ce : Ce) : Sp := fun vs H Q _ => ∃ (a : Addr) (ns : List Int), vs = [.ref a] ∧ ScrAt K H (fun b => b ∈ ce.T.map (·.1)) a (ns.map V.int) ∧ LamX.Tabs ce.T H ∧ ns.length ≤ 63 ∧ ∀ H', Q (.bl true) H'
theorem law_ok {x2 : Str} {N : List Str} {rest : List Stmt} {b : SS} {p1 p2 p3 p4 p5 : Pos} {j : Nat} (t : Tx K mg nm q st cd) (S : FnScope N ["script"] (defScope st)) (hN1 : N[1]? = some x2)
    (hB : ∃ f fd, mg "_law_begun" = some (.ref f) ∧ (∃ st', Fun K "_law_begun" "_law_begun" st' f fd) ∧ Binds K fd ["script"] [] ∧ FnOk P w K mg base (L2.CX P w) j f fd ["script"] (spBegun K ce)) (hj : j ≤ k)
    (hb : defBody st = .Assign [.Name x2 p1] (.Call (.Name "_law_begun" p2) [.Name "script" p3] [] p4) p5 :: rest) (hloc : Loc (defScope st) x2) (hv0 : Vis (defScope st) ("script" : Str)) (hg : (defScope st).names.lookup ("_law_begun" : Str) = some .globalImplicit)
    (hr : ∀ (f : Addr) (A : Around) (outer : List Env) (s : Shared) (H : Hp) (E : XK), Cn (Xf P w K mg base N q st f cd A outer s H E) (fun cls d _ H => E cls d H) k → Takes (Xf P w K mg base N q st f cd A outer s H E) (fun cls d _ H => E cls d H) →
      YSs (Xf P w K mg base N q st f cd A outer s H E) ce (fun cls d _ H => E cls d H) rest b)
    (plain : ∀ ns : List Int, ns.length ≤ 63 → ∃ dr', b (([D.scr ns].map Sl.val ++ List.replicate (N.length - 1) Sl.un).set 1 (.val .draw)) (dr0 ns) = .ok (.rt (.bl true)) dr')
    (hN0 : N[0]? = some ("script" : Str) := by rfl) :
    ∃ f fd, mg nm = some (.ref f) ∧ Fun K q q st f fd ∧ FnOk P w K mg base (L2.CX P w) (k + 1) f fd ["script"] (spLaw K ce) := by
  obtain ⟨f, oc, od, kV, doc, pm, an, ct, osl, e1, e2, e3, e4⟩ := t.ex
  obtain ⟨fB, fdB, b1, ⟨stB, b2⟩, b3, b4⟩ := hB
  refine ⟨f, _, e1, fun_mk e2 e3 e4, fn_of e2 e3 S (fun vs H Q E h => ?_) fun A outer s H vs Q E hrm h => ?_⟩
  · obtain ⟨a, ns, rfl, _⟩ := h
    rfl
  · have tk : Takes (Xf P w K mg base N q st f cd A outer s H E) (fun cls d _ H => E cls d H) := takes_of rfl rfl rfl rfl
    have c : Cn (Xf P w K mg base N q st f cd A outer s H E) (fun cls d _ H => E cls d H) k := ⟨⟨rfl, by
      have := hrm.un
      show (A.deeper _).units + 65 < cLine
      omega, S.nd⟩, fun σ => passAt tk σ, hrm, passes_of rfl⟩
    rw [hb]
    refine ⟨_, pss_cons (ps_set (i := 1) S.nd hN1 hloc (pe_callS (E := WE fun cls d _ H => E cls d H) b4 (hrm.mono hj) hg b1 b2.kp b3 (fun σ => passAt tk σ) (pa_cons (pe_var (i := 0) hN0 hv0 (by decide)) pa_nil)) rfl (.inl rfl)) (hr f A outer s H E c tk), ?_⟩
    obtain ⟨a, ns, rfl, hs, hT, hz, kk⟩ := h
    refine ⟨.ref a, rfl, a, ns, rfl, hs, hT, hz, fun lo H' B => ?_⟩
    obtain ⟨dr', hp⟩ := plain ns hz
    refine ⟨_, _, dr0 ns, SR.law hs hT B, ?_⟩
    rw [hp]
    intro v H2 _ _ r
    cases r
    exact kk H2
end
end TP

set_option Elab.async false
set_option linter.all false
set_option maxRecDepth 100000
set_option maxHeartbeats 4000000
/-! TP, part 19: the end. -/
namespace TP
open PySem L2
abbrev Txe (K : PySem.W.Frag) (mg : Str → Option Value) (nm q : Str) (st : Stmt) : Prop := ∃ cd, Tx K mg nm q st cd
section
variable {P : Program} {w : World} {K : PySem.W.Frag} {mg : Str → Option Value} {base : Heap} {ce : Ce} {nm q : Str} {st : Stmt} {k : Nat}
theorem Txe.df {N ps : List Str} {b : SS} (t : Txe K mg nm q st) (S : FnScope N ps (defScope st))
    (hbd : ∀ (kV doc pm : Value) (an : Option Addr) (cdv ct : Value) (us : List Value), us.length = ps.length → bindArgs (PySem.W.fnOf q q (defArgs st) (defBody st) (defScope st) .none kV doc pm an cdv ct) ⟨us, []⟩ = pure (ps.zip us))
    (hb : ∀ (f : Addr) (cd : Value) (A : Around) (outer : List Env) (s : Shared) (H : Hp) (E : XK), Cn (Xf P w K mg base N q st f cd A outer s H E) (fun cls d _ H => E cls d H) k → Takes (Xf P w K mg base N q st f cd A outer s H E) (fun cls d _ H => E cls d H) →
      YSs (Xf P w K mg base N q st f cd A outer s H E) ce (fun cls d _ H => E cls d H) (defBody st) b) : Df P w K mg base ce nm q st ps (k + 1) (fD N.length b) := by
  obtain ⟨cd, t⟩ := t
  exact t.df S hbd fun f => hb f cd
theorem tx_mk {h : Heap} {f : Addr} {oc : Value} {od : Option Addr} {kV doc pm cd ct : Value} {an : Option Addr} {osl : Array (Option Value)} (X : K.In h) (G : h.Ns mainGlobals mg) (a : PySem.W.nsIn K mainGlobals nm = some (some (.ref f)))
    (l : K.lookup f = some ⟨oc, od, .func (PySem.W.fnOf q q (defArgs st) (defBody st) (defScope st) .none kV doc pm an cd ct), osl⟩) (c : PySem.W.codeIn K cd q = true) (kp : PySem.W.keepIn K (.ref f) = true) : Tx K mg nm q st cd :=
  ⟨f, oc, od, kV, doc, pm, an, ct, osl, PySem.W.mg_of X G a, l, c, kp⟩
/-- a class of errors -/
theorem erC_mk {C : Addr} (h1 : PySem.W.isClsIn K C = true) (h2 : PySem.W.typeIn K (.ref C) = some (.type "type")) (h3 : PySem.W.findIn K (.ref C) "__getattribute__" = some (some (.builtin "BaseException.__getattribute__"))) (h4 : PySem.W.findIn K (.ref C) "__getattr__" = some none)
    (h5 : PySem.W.subIn K (.ref C) (.type "BaseException") = some true) (h6 : PySem.W.hasDictIn K C = true) (h7 : PySem.W.findIn K (.ref C) "__class__" = some (some (.builtin "object.__class__")))
    (h8 : PySem.W.specialIn K (.builtin "object.__class__") "__get__" = some (some (.builtin "getset_descriptor.__get__"))) (h9 : PySem.W.takesIn K (.builtin "object.__class__") = some true) (h10 : PySem.W.mroIn K C (.type "object") = some true)
    (h11 : PySem.W.excIn K C [.type "ValueError", .type "Exception", .type "BaseException", .type "object"] "ValueError.__new__" = true) (h12 : PySem.W.keepIn K (.ref C) = true) : ErC K C := ⟨h1, h2, ⟨h3, h4, h5, h6, h7, h8, h9, h10⟩, h11, h12⟩
theorem exm_mk {C D : Addr} {b : Bool} (hc : ErC K C) (hs : PySem.W.subIn K (.ref D) (.ref C) = some b) : PySem.W.exmOne K (.ref D) (.ref C) = some b := PySem.W.exm_ref hc.ex.hs hc.ex.hd hc.ty hs
end
theorem ye_caughtE {X : Cx} {ce : Ce} {W : WX} {k j : Nat} {is : Nat → Bool} {x : Str} {st : Stmt} {c P : Addr} {params : Arguments} {body : Expr} {scope : Scope} {p lpos pos : Pos} {e : ES} (Ca : ∃ cd, Cau X.K X.mg ce is x st cd) (C : Cn X W k) (hj : j + 2 ≤ k)
    (TB : LamX.TabB X.base X.mg c P) (hcode : X.env.code = .ref c) (hmT : (P, X.env.qual ++ "<lambda>") ∈ ce.T) (hu : ∀ p ∈ ce.T, p.1 = P → p.2 = X.env.qual ++ "<lambda>") (L : LamX.LamS X.env.scope scope) (hdef : defaultsOf params X.env = ([], []))
    (hbind : ∀ (q : Str) (cl : List (Str × Addr)) (pm cv ctv : Value), bindArgs (PySem.W.kla_fn "<lambda>" q params body scope cl pm cv ctv) ⟨[], []⟩ = pure [])
    (hbody : ∀ (A : Around) (outer : List Env) (s : Shared) (H : Hp) (E : XK) (f c' : Addr), Cn (Xl X A outer s H E scope f c') (fun cls d _ H => E cls d H) j → YE (Xl X A outer s H E scope f c') ce (fun cls d _ H => E cls d H) body e)
    (hg : Gl X x := by rfl) (hdb : (x == ("__debug__" : Str)) = false := by decide) : YE X ce W (.Call (.Name x p) [.Lambda params body scope lpos] [] pos) (sCaught is e) := by
  obtain ⟨cd, Ca⟩ := Ca
  exact ye_caught Ca C hj TB hcode hmT hu L hdef hbind hbody hg hdb
/-- what is known of the law's promise at the head's heap h; the tables of code objects stand there -/
theorem walk_T {l : PySem.W.OpenLaw} {n k : Nat} {q : Program} {loose : List Str} {XP : (Str → Option Value) → Heap → Prop} {YP : World → Heap → Prop} {d : DefRec} {K : Params → PySem.W.Frag} {x : Str}
    (hn : l.most = some n) (hn2 : n ≤ sizeLine) (hdf : d.params.defaults = []) (hr : Room k callerA) (hY : ∀ (w : World) (h : Heap), YP w h → (K w.params).In h)
    (F : ∀ (w : World) (mg : Str → Option Value) (fa : Addr) (h : Heap), YP w h → (K w.params).In h → h.Ns mainGlobals mg → mg d.name = some (.ref fa) →
      (∀ (x : Str) (dd : DefRec) (c P : Addr), (PyProof.Rows.recsOf q).find? (fun e => e.name == x) = some dd → PySem.W.tabIn (K w.params) x = some (c, P) → PySem.W.CodeHd h c P ∧ h.get? P = some (PySem.W.tabObj #[])) → LamX.LawAtS l w (K w.params) (L2.CX l.prog w) k n x mg fa h) :
    PySem.W.WalkO q loose XP YP l.row.toRowW d [] (fun f vs => PySem.call f vs) := by
  refine Att.attach_callB hn hdf fun w s₀ s₁ mg mb fa o pm cd doc a vs ns G Y ho hd hcd hmg hobj hints hlen hbits hg => ?_
  have KX := hY w _ Y
  obtain ⟨fd, cs, sp, hT, nT, C, hb, hsp, hF⟩ := F w mg fa _ Y KX G.T.g hmg (fun x dd c P h1 h2 => PySem.W.tab_of G.T KX h1 h2)
  exact LamX.law_callTs KX G.T.g G.T.b G.T.builtins G.T.nolimit hg hT nT C G.T.bmain hobj hints (Nat.le_trans hlen hn2) hr hF hb (fun H hH hS => hsp H a ns hlen hbits hH hS) fun H e s' h => by
    obtain ⟨_, _, _, _, _, _, _, _, _, _, _, _, z⟩ := h
    exact z.elim
/-- the law's def and its tables give what the head wants -/
theorem lawAt {l : PySem.W.OpenLaw} {w : World} {K : PySem.W.Frag} {k : Nat} {mg : Str → Option Value} {fa : Addr} {h : Heap} {ce : Ce} {cs : List (Addr × Addr)} {nm : Str} {st : Stmt} (hm : mg nm = some (.ref fa)) (hT : ce.T.map (·.1) = cs.map (·.2)) (t : Txe K mg nm nm st)
    (h1 : ∀ p ∈ cs, PySem.W.CodeHd h p.1 p.2 ∧ h.get? p.2 = some (PySem.W.tabObj #[])) (h2 : ∀ p ∈ cs, K.lookup p.2 = none)
    (hbd : ∀ (kV doc pm : Value) (an : Option Addr) (cdv ct : Value) (us : List Value), us.length = 1 → bindArgs (PySem.W.fnOf nm nm (defArgs st) (defBody st) (defScope st) .none kV doc pm an cdv ct) ⟨us, []⟩ = pure ((["script"] : List Str).zip us))
    (F : ∀ base : Heap, K.In base → base.Ns mainGlobals mg → (∀ p ∈ cs, LamX.TabB base mg p.1 p.2) → ∃ f fd, mg nm = some (.ref f) ∧ Fun K nm nm st f fd ∧ FnOk l.prog w K mg base (L2.CX l.prog w) k f fd ["script"] (spLaw K ce)) : LamX.LawAtS l w K (L2.CX l.prog w) k 63 "script" mg fa h := by
  obtain ⟨cd, f, oc, od, kV, doc, pm, an, ct, osl, e1, e2, e3, e4⟩ := t
  rw [hm] at e1
  cases e1
  refine ⟨_, cs, spLaw K ce, fun p hp => (h1 p hp).2, h2, fun p hp => (h1 p hp).1, fun s u => .of_eq (hbd kV doc pm an cd ct [u] rfl), fun H a ns hl hbits hH hS => ?_, fun base KX G TB => ?_⟩
  · have nT : ∀ o, H a = some o → NT o → a ∉ ce.T.map (·.1) := fun o e t z => by
      rw [hT] at z
      obtain ⟨p, hp, ep⟩ := List.mem_map.mp z
      have := hH p hp
      rw [ep, e] at this
      cases this
      exact t _ rfl
    refine ⟨a, ns, rfl, ⟨by rw [List.length_map, sizeLine_eq]; omega, ?_⟩, fun p hp => ?_, hl, fun _ => rfl⟩
    · rcases hS with r | r
      · refine .inl ⟨r, ?_⟩
        rcases r with r | ⟨o, r⟩
        · exact nT _ r .lst
        · exact nT _ r .frz
      · exact .inr fun H' => .inr r
    · have : p.1 ∈ cs.map (·.2) := by rw [← hT]; exact List.mem_map.mpr ⟨p, hp, rfl⟩
      obtain ⟨p', hp', ep⟩ := List.mem_map.mp this
      rw [← ep]
      exact LamX.TabS.nil (hH p' hp')
  · obtain ⟨f, fd, g1, g2, g3⟩ := F base KX G TB
    rw [hm] at g1
    cases g1
    obtain ⟨oc', od', kV', doc', pm', an', cdv', ct', osl', rfl, lk, _⟩ := g2.ex
    rw [e2] at lk
    cases lk
    exact g3
/-- a new list for a name, as a datum -/
theorem ys_lcv {X : Cx} {ce : Ce} {W : WX} {st : Stmt} {i : Nat} {lc : LS} (h : YS X ce W st (sSet i (zF lc))) : YS X ce W st (sSet i (zV (sL lc))) := by
  refine ps_imp h fun D σ H ⟨g, ρ, dr, S, P⟩ => ⟨g, ρ, dr, S, ?_⟩
  unfold sSet zV sL at P
  unfold sSet zF
  cases hr : lc ρ dr with
  | fail => simp only [hr, Res.bind] at P ⊢; exact P
  | exc x dr1 => simp only [hr, Res.bind] at P ⊢; exact P
  | ok l dr1 =>
    simp only [hr, Res.bind] at P ⊢
    intro σ' H' g' n k S'
    obtain ⟨g2, n2, k2, S2⟩ := S'.share i
    refine P σ' H' g2 (n.trans n2) (k.trans k2) ?_
    unfold shareS at S2
    by_cases hi : i < ρ.length
    · rw [List.getElem?_set_self hi] at S2
      simp only [List.set_set] at S2
      exact S2
    · rw [List.getElem?_eq_none (by rw [List.length_set]; omega)] at S2
      rw [List.set_eq_of_length_le (by omega)] at S2 ⊢
      exact S2
end TP

set_option Elab.async false
set_option linter.all false
set_option maxRecDepth 100000
set_option maxHeartbeats 4000000
/-! TP, part 20: dict of a list of pairs. -/
namespace TP
open PySem L2
def dPrs : List D → Option (List (Key × D))
  | [] => some []
  | .tup [k, v] :: l => (dKey k).bind fun kk => (dPrs l).map fun ps => (kk, v) :: ps
  | _ => none
/-- dict(a list of pairs) -/
def dDict : List D → Option D
  | [.lst l] => (dPrs l).map fun ps => dicOf (mkD ps)
  | _ => none
section
variable {K : PySem.W.Frag} {ce : Ce} {H : Hp} {g : Gm}
theorem prs_of : ∀ {l : List D} {xs : List V} {ps : List (Key × D)}, Reps K ce g.L H g.A xs l → dPrs l = some ps →
    ∃ (as : List Addr) (kvs : List (Key × V)), xs = as.map V.ref ∧ Paired (fun p kv => SqT K H p [kV kv.1, kv.2]) as kvs ∧ KR K ce g.L H g.A kvs ps
  | [], _, _, .nil, h => by
    cases h
    exact ⟨[], [], rfl, .nil, .nil⟩
  | d :: l, _, _, .cons r t, h => by
    unfold dPrs at h
    split at h
    · cases h
      rename_i e
      cases e
    · rename_i k v l' e
      cases e
      cases hk : dKey k with
      | none => rw [hk] at h; cases h
      | some kk =>
        rw [hk] at h
        cases hp : dPrs l with
        | none => rw [hp] at h; cases h
        | some ps' =>
          rw [hp] at h
          cases h
          obtain ⟨as, kvs, e1, p1, k1⟩ := prs_of t hp
          obtain ⟨p, xs, e2, z1, s1, r1, _⟩ := (RepB.of r).tup
          cases r1 with
          | @cons u _ _ _ ru t1 =>
            cases t1 with
            | @cons w _ _ _ rw t2 =>
              cases t2
              have ek := dKey_v hk (RepB.of ru)
              subst ek
              exact ⟨p :: as, (kk, w) :: kvs, by rw [List.map_cons, ← e1, ← e2], .cons s1 p1, .cons ⟨rfl, rw⟩ k1⟩
    · cases h
end
section
variable {X : Cx} {ce : Ce}
theorem cs_dict (P : Pc X) : CalS X ce (.type "dict") dDict := by
  refine ⟨_, call_freeze (call_dictP P.calm), fun g σ ρ dr H vs ds z Q S rs hz q => ?_⟩
  unfold dDict at hz
  split at hz
  · rename_i l
    cases hp : dPrs l with
    | none => rw [hp] at hz; cases hz
    | some ps =>
      rw [hp] at hz
      cases hz
      cases rs with
      | cons r t =>
        cases t
        obtain ⟨p, xs, rfl, z1, s1, r1⟩ := r.lst
        obtain ⟨as, kvs, rfl, p1, k1⟩ := prs_of r1 hp
        refine ⟨p, as, kvs, rfl, .of s1, p1, fun a ha => ?_⟩
        obtain ⟨q1, q2, q3⟩ := (KR.merge k1).dic
        refine ⟨a, _, rfl, upd_same, trivial, fun od => ?_⟩
        rw [upd_upd]
        refine q _ _ (.new ha) (S.new ha) (.dic ⟨od, by rw [upd_same, ← q1]⟩ (S.out ha) q2 (S.newRs ha q3))
  · cases hz
end
/-- a text n times over -/
def timesT (x : Str) (n : Int) : Str := if (n == 1 || x.length == 0) = true then x else ⟨(List.replicate n.toNat x.cps).foldl (· ++ ·) #[]⟩
def dMulS : D → D → Option D
  | .str x, .int n => if 1 ≤ n ∧ n ≤ 1000 ∧ x.length ≤ 1000 then some (.str (timesT x n)) else none
  | _, _ => none
section
variable {X : Cx} {ce : Ce}
theorem fold_size {α : Type} (a : Array α) : ∀ (n : Nat) (b : Array α), ((List.replicate n a).foldl (fun x1 x2 => x1 ++ x2) b).size = b.size + n * a.size
  | 0, b => by simp
  | n + 1, b => by
    rw [List.replicate_succ, List.foldl_cons, fold_size a n (b ++ a), Array.size_append, Nat.succ_mul]
    omega
theorem op_mulT : OpR X (binaryOp .Mult) (fun x y H Q => ∃ i n, x = .str i ∧ y = .int n ∧ 1 ≤ n ∧ n ≤ 1000 ∧ i.length ≤ 1000 ∧ Q (.str (timesT i n)) H) := by
  intro pins s σ H x y v u Q I rx ry h
  obtain ⟨i, n, rfl, rfl, h1, h2, h3, q⟩ := h
  obtain ⟨t, rfl⟩ := rx
  obtain ⟨t', rfl⟩ := ry
  have hm : i.length * n.toNat ≤ 1000 * 1000 := Nat.mul_le_mul h3 (by omega)
  have hz : i.length * n.toNat ≤ sizeLine := by rw [sizeLine_eq]; omega
  refine P.mul_str (by rw [decide_eq_false (by omega), decide_eq_false (by omega)]; rfl) (fun _ _ hb => ?_) (fun _ _ => ?_) ?_
  · have h5 := (Int.ediv_lt_iff_lt_mul (a := 2 ^ 63 - 1) (b := i.length) (show 0 < n by omega)).mp hb
    have h6 : ((i.length * n.toNat : Nat) : Int) = i.length * n := by
      rw [Int.natCast_mul, Int.toNat_of_nonneg (by omega)]
    omega
  · unfold Builtin.Str.tooLong
    exact decide_eq_false (by omega)
  · rw [if_neg (by omega)]
    unfold timesT at q
    split
    · rename_i e
      rw [if_pos e] at q
      exact ⟨.str i, H, I, ⟨_, rfl⟩, q⟩
    · rename_i e
      rw [if_neg e] at q
      refine ⟨?_, .str _, H, I.tok _, ⟨_, rfl⟩, q⟩
      show (List.foldl (fun x1 x2 => x1 ++ x2) #[] (List.replicate n.toNat i.cps)).size ≤ sizeLine
      rw [fold_size]
      have hz' : n.toNat * i.cps.size ≤ sizeLine := by
        rw [Nat.mul_comm]
        exact hz
      simpa using hz'
theorem bs_mulS : BinS X ce (binaryOp .Mult) dMulS := by
  refine ⟨_, op_mulT, fun g σ ρ dr H v u d e z Q S rv ru hz q => ?_⟩
  unfold dMulS at hz
  split at hz
  · split at hz
    · rename_i hb
      cases hz
      exact ⟨_, _, rv.str, ru.int, hb.1, hb.2.1, hb.2.2, q H _ .refl S (.str _)⟩
    · cases hz
  · cases hz
end
end TP

set_option Elab.async false
set_option linter.all false
set_option maxRecDepth 100000
set_option maxHeartbeats 4000000
/-! TP, part 21: dicts walked by their keys, comprehensions of dicts, max of values, len of dicts. -/
namespace TP
open PySem L2
def keyD : Key → D
  | .inl i => .int i
  | .inr x => .str x
def keysD : D → Option (List D)
  | .dic ks _ => some (ks.map keyD)
  | _ => none
def sKeys (e : ES) : LS := fun ρ dr => (e ρ dr).bind fun x dr1 => lift (keysD x) dr1
theorem rep_key {K : PySem.W.Frag} {ce : Ce} {L : Lx} {H : Hp} {A : Addr → Prop} (k : Key) : Rep K ce L H A (kV k) (keyD k) := by
  cases k with
  | inl i => exact .int i
  | inr x => exact .str x
section
variable {X : Cx} {ce : Ce} {W : WX} {cl : Bool} {tg a : Expr} {ea : ES}
/-- for k in d, d a datum -/
theorem yi_keys (ya : YE X ce W a ea) : YI X ce W cl tg a (sKeys ea) := by
  refine ⟨_, pi_keys ya, fun σ H R g ρ dr S P => ?_⟩
  refine ⟨g, ρ, dr, S, (Post.bind P).mono fun d dr1 H1 _ E1 S1 P1 v R1 => ?_⟩
  cases hk : keysD d with
  | none => rw [hk] at P1; exact P1.elim
  | some l =>
    rw [hk] at P1
    cases R1 with
    | @dic p ks us vs h n hl r =>
      cases hk
      obtain ⟨o, h⟩ := h
      refine ⟨p, o, rfl, .inl ⟨_, h, Post.ok P1 S1 _ fun i H2 A' k => ?_⟩⟩
      have hB : ¬ (if cl = true then Pl g.L else g.A) p := by
        split
        · exact fun z => n (S1.pl p z)
        · exact n
      have h2 := k.stay p _ hB h .frz
      have hz : (ks.zip us).length = ks.length := by rw [List.length_zip, hl]; exact Nat.min_self _
      refine ⟨fun hi => ⟨⟨h2, by rw [hz]; simpa using hi⟩, fun x H3 y => ?_⟩, fun hi => ⟨h2, by rw [hz, hi]; simp⟩⟩
      obtain ⟨rfl, kk, w, e1, e2⟩ := y
      subst e2
      refine ⟨fun _ _ e => e, keyD kk, ?_, rep_key kk⟩
      have e3 := (List.getElem?_zip_eq_some.mp e1).1
      rw [List.getElem?_map, e3]
      rfl
    | _ => cases hk
end
/-! ### {k: v for .. in .. if ..} -/
def dGo (b : GS) (c : BS) (k e : ES) (ρ : List Sl) : List D → List (Key × D) → Dr → Res (List (Key × D))
  | [], acc, dr => .ok acc dr
  | x :: xs, acc, dr => match b x ρ with
    | none => .fail
    | some ρ1 => match c ρ1 dr with
      | .ok true dr1 => match k ρ1 dr1 with
        | .ok kd dr2 => match e ρ1 dr2 with
          | .ok d dr3 => match dKey kd with
            | some kk => dGo b c k e ρ xs (putP acc kk d) dr3
            | none => .fail
          | _ => .fail
        | _ => .fail
      | .ok false dr1 => dGo b c k e ρ xs acc dr1
      | _ => .fail
def sDcomp (it : LS) (b : GS) (c : BS) (k e : ES) (vs : List Nat) : ES := fun ρ dr => (it ρ dr).bind fun items dr1 => if items.length ≤ sizeLine then (dGo b c k e (wipeS ρ vs) items [] dr1).bind fun ps dr2 => .ok (dicOf ps) dr2 else .fail
section
variable {X : Cx} {ce : Ce} {W : WX}
theorem dcomp_run {t : TG} {wi : TI} {it : LS} {b : GS} {c : BS} {k e : ES} {vs ws' : List Nat} {σ : St} {H : Hp} {Q : VK} {g : Gm} {ρ : List Sl} {dr : Dr}
    (hi : ∀ (σ : St) (H : Hp) (R : It → Hp → Prop) (g : Gm) (ρ : List Sl) (dr : Dr), SR X.K ce g H σ ρ dr → Post X.K ce W g σ ρ H (it ρ dr) (fun items _ H' => ∀ J, ItOk X.K ce g.L (Pl g.L) g.A H' J items → R J H') → wi σ H R)
    (ht : ∀ (g : Gm) (σ : St) (ρ : List Sl) (dr : Dr) (H : Hp) (v : V) (d : D) (ρ' : List Sl) (Q : St → Hp → Prop), SR X.K ce g H σ ρ dr → Rep X.K ce g.L H g.A v d → b d ρ = some ρ' →
      (∀ σ', SR X.K ce g H σ' ρ' dr → (∀ ws : List Nat, (∀ i ∈ ws', i ∈ ws) → wipe σ' ws = wipe σ ws) → Q σ' H) → t v σ H Q) (hw : ∀ i ∈ ws', i ∈ vs)
    (S : SR X.K ce g H σ ρ dr) (P : Post X.K ce W g σ ρ H (sDcomp it b c k e vs ρ dr) fun d _ H' => ∀ v, Rep X.K ce g.L H' g.A v d → Q v H') :
    tDc wi t (tT X.K ce W0 c) (tE X.K ce W0 k) (tE X.K ce W0 e) vs σ H fun v H' => ∃ d u, v = .ref d ∧ H' d = some u ∧ Mut (some u) ∧ ∀ od, Q v (upd H' d (.frz od u)) := by
  refine hi σ H _ g ρ dr S ((Post.bind P).mono fun items dr1 H1 _ E1 S1 P1 J hJ D hD => ?_)
  split at P1
  case isFalse => exact P1.elim
  case isTrue hlen =>
  generalize hr : dGo b c k e (wipeS ρ vs) items [] dr1 = r at P1
  have DnP : ¬ Pl g.L D := fun z => S1.trn D (S1.pl D z) hD
  have Dn : Nn (H D) := E1.back hD DnP
  refine ⟨fun i m H2 => m = items.length - i ∧ i ≤ items.length ∧ ∃ acc vacc dr2, r = dGo b c k e (wipeS ρ vs) (items.drop i) acc dr2 ∧ Ext g.L H1 H2 ∧ SR X.K ce { g with A := fun a => g.A a ∨ a = D } H2 σ ρ dr2 ∧ H2 D = some (.dK vacc) ∧ vacc.length ≤ i ∧
    KR X.K ce g.L H2 (fun a => g.A a ∨ a = D) vacc acc, ⟨_, rfl, Nat.zero_le _, [], [], dr1, by rw [List.drop_zero]; exact hr.symm, .new hD, ?_, upd_same, Nat.zero_le _, .nil⟩, ?_⟩
  · exact S1.grow (.of hD) (.new hD) (S1.gk.new hD) (⟨_, upd_same, .dK⟩)
  · rintro i m H2 ⟨rfl, hi2, acc, vacc, dr2, hr2, E2, S2, hD2, hv, R2⟩
    have kp : Kp (Pl g.L) g.A H1 (fun a => g.A a ∨ a = D) H2 := ⟨fun b o n e => E2 b o e n, fun b o n e _ z => z.elim n fun z => (by rw [z, hD] at e; cases e), S2.trn⟩
    obtain ⟨go, stop⟩ := hJ i H2 _ kp
    by_cases hlt : i < items.length
    · obtain ⟨g1, g2⟩ := go hlt
      refine .inr ⟨g1, fun H' => ∃ m', m' < items.length - i ∧ m' = items.length - (i + 1) ∧ i + 1 ≤ items.length ∧ ∃ acc vacc dr2, r = dGo b c k e (wipeS ρ vs) (items.drop (i + 1)) acc dr2 ∧ Ext g.L H1 H' ∧ SR X.K ce { g with A := fun a => g.A a ∨ a = D } H' σ ρ dr2 ∧ H' D = some (.dK vacc) ∧ vacc.length ≤ i + 1 ∧
        KR X.K ce g.L H' (fun a => g.A a ∨ a = D) vacc acc, fun H' h => h, fun x H3 y => ?_⟩
      obtain ⟨sm, d, hd, rd⟩ := g2 x H3 y
      have E3 : Ext g.L H2 H3 := fun b o e _ _ => sm b o e
      have S3 := S2.step (dr' := dr2) E3 (GOk.keep S2.gk sm)
      have e1 : items.drop i = d :: items.drop (i + 1) := by
        rw [List.drop_eq_getElem_cons hlt]
        have := (List.getElem?_eq_some_iff.mp hd).2
        rw [this]
      rw [e1] at hr2
      unfold dGo at hr2
      cases hb : b d (wipeS ρ vs) with
      | none =>
        rw [hb] at hr2
        rw [hr2] at P1
        exact P1.elim
      | some ρ1 =>
        rw [hb] at hr2
        refine ht { g with A := fun a => g.A a ∨ a = D } (wipe σ vs) (wipeS ρ vs) dr2 H3 x d ρ1 _ (S3.wipe vs) rd hb fun σ2 S4 w4 => ⟨?_, ?_⟩
        · rw [w4 vs hw, wipe_wipe]
        · refine ⟨{ g with A := fun a => g.A a ∨ a = D }, ρ1, dr2, S4, ?_⟩
          cases hc : c ρ1 dr2 with
          | fail =>
            simp only [hc] at hr2
            rw [hr2] at P1
            exact P1.elim
          | exc xx dd =>
            simp only [hc] at hr2
            rw [hr2] at P1
            exact P1.elim
          | ok q dr3 =>
            intro H4 E4 S5
            cases q with
            | false =>
              simp only [hc] at hr2
              refine iteF ⟨items.length - (i + 1), by omega, rfl, hlt, acc, vacc, dr3, hr2, (E2.trans E3).trans E4, ?_, E4 _ _ (E3 _ _ hD2 DnP .dK) DnP .dK, by omega, ?_⟩
              · exact S3.step E4 S5.gk
              · exact R2.mono (fun b o n e t => S2.far (E3.trans E4) b o n e t) fun _ h => .inl h
            | true =>
              simp only [hc] at hr2
              refine iteT ⟨{ g with A := fun a => g.A a ∨ a = D }, ρ1, dr3, S5, ?_⟩
              cases hk : k ρ1 dr3 with
              | fail =>
                simp only [hk] at hr2
                rw [hr2] at P1
                exact P1.elim
              | exc xx dd =>
                simp only [hk] at hr2
                rw [hr2] at P1
                exact P1.elim
              | ok kd dr4 =>
                simp only [hk] at hr2
                intro H5 E5 S6 vk rk
                refine ⟨{ g with A := fun a => g.A a ∨ a = D }, ρ1, dr4, S6, ?_⟩
                cases he : e ρ1 dr4 with
                | fail =>
                  simp only [he] at hr2
                  rw [hr2] at P1
                  exact P1.elim
                | exc xx dd =>
                  simp only [he] at hr2
                  rw [hr2] at P1
                  exact P1.elim
                | ok z dr5 =>
                  simp only [he] at hr2
                  intro H6 E6 S7 vz rz
                  cases hkk : dKey kd with
                  | none =>
                    simp only [hkk] at hr2
                    rw [hr2] at P1
                    exact P1.elim
                  | some kk =>
                    simp only [hkk] at hr2
                    have E7 : Ext g.L H2 H6 := ((E3.trans E4).trans E5).trans E6
                    have hD6 := E7 _ _ hD2 DnP .dK
                    have ek := dKey_v hkk (RepB.of rk)
                    subst ek
                    have hl2 := length_putK vacc kk vz
                    refine ⟨vacc, kk, rfl, hD6, by rw [sizeLine_eq] at hlen ⊢; omega, items.length - (i + 1), by omega, rfl, hlt, putP acc kk z, putK vacc kk vz, dr5, hr2, ?_, ?_, upd_same, by omega, ?_⟩
                    · intro b o h1 h2 t
                      have h3 := (E2.trans E7) b o h1 h2 t
                      rw [upd_ne fun z => by rw [z, hD] at h1; cases h1]
                      exact h3
                    · refine S1.grow (.of hD) ?_ (GOk.upd S7.gk (S1.gk.not hD) fun φ z => by rw [hD6] at z; cases z) (⟨_, upd_same, .dK⟩)
                      intro b o h1 h2 t
                      rw [upd_ne fun z => by rw [z, hD] at h1; cases h1]
                      exact (E2.trans E7) b o h1 h2 t
                    · have up : ∀ b o, ¬ (g.A b ∨ b = D) → H6 b = some o → NT o → upd H6 D (.dK (putK vacc kk vz)) b = some o := fun b o n e _ => by
                        rw [upd_ne fun z => n (.inr z)]
                        exact e
                      have R2' : KR X.K ce g.L H6 (fun a => g.A a ∨ a = D) vacc acc := R2.mono (fun b o n e t => S2.far E7 b o n e t) fun _ h => .inl h
                      exact (R2'.put kk rz).mono up fun _ q => .inl q
    · have hi3 : i = items.length := by omega
      refine .inl ⟨stop hi3, D, _, rfl, hD2, trivial, fun od => ?_⟩
      rw [hi3, List.drop_length] at hr2
      rw [hr2] at P1
      have hdn := S1.gk.not hD
      have E3 : Ext g.L H1 (upd H2 D (.frz od (.dK vacc))) := fun b o e n t => by
        rw [upd_ne fun z => by rw [z, hD] at e; cases e]
        exact E2 b o e n t
      have S3 := S1.step E3 (GOk.upd S2.gk hdn fun φ z => by rw [hD2] at z; cases z)
      have up : ∀ b o, ¬ (g.A b ∨ b = D) → H2 b = some o → NT o → upd H2 D (.frz od (.dK vacc)) b = some o := fun b o n e _ => by
        rw [upd_ne fun z => n (.inr z)]
        exact e
      obtain ⟨k1, k2, k3⟩ := (R2.mono (A' := g.A) up fun _ q => .inl (.inl q)).dic
      have P2 : ∀ H', Ext g.L H1 H' → SR X.K ce g H' σ ρ dr2 → ∀ v, Rep X.K ce g.L H' g.A v (dicOf acc) → Q v H' := P1
      exact P2 _ E3 S3 _ (.dic ⟨od, by rw [upd_same, ← k1]⟩ (S1.out hD) k2 k3)
variable {pos : Pos}
theorem ye_dcomp {kx vx tg iter : Expr} {ifs : List Expr} {scope : Scope} {own : List (Str × Nat)} {it : LS} {b : GS} {c : BS} {k e : ES} {ws : List Nat} (t : TG) (hc : X.calm = true) (hN : X.N.Nodup) (hi : YI X ce W true tg iter it) (ok : BlkOk X.N X.env.scope scope own)
    (hs : GSm X.K ce t b ws) (hw : ∀ i ∈ ws, i ∈ own.map (·.2))
    (hg : ∀ (s : Shared) (H : Hp) (C : Addr) (cl : List (Str × Addr)) (fp : List Addr), PG (X.blk s H scope (compEnvC scope cl C X.env) fp) tg t)
    (ht : ∀ (s : Shared) (H : Hp) (C : Addr) (cl : List (Str × Addr)) (fp : List Addr), YTs (X.blk s H scope (compEnvC scope cl C X.env) fp) ce W0 ifs c)
    (hk : ∀ (s : Shared) (H : Hp) (C : Addr) (cl : List (Str × Addr)) (fp : List Addr), YE (X.blk s H scope (compEnvC scope cl C X.env) fp) ce W0 kx k)
    (he : ∀ (s : Shared) (H : Hp) (C : Addr) (cl : List (Str × Addr)) (fp : List Addr), YE (X.blk s H scope (compEnvC scope cl C X.env) fp) ce W0 vx e) (hf : ∀ x, foldedSetIterable iter X.env x = pure x := by intro _; rfl) :
    YE X ce W (.DictComp kx vx [⟨tg, iter, ifs, 0⟩] scope pos) (sDcomp it b c k e (own.map (·.2))) := by
  obtain ⟨wi, hi, hi'⟩ := hi
  exact pe_imp (pe_freeze (pe_dc (tt := tT X.K ce W0 c) (tk := tE X.K ce W0 k) (tv := tE X.K ce W0 e) hc hN hi ok hg ht hk he hf)) fun σ H Q ⟨g, ρ, dr, S, P⟩ => dcomp_run (fun σ H R g ρ dr S' P' => hi' σ H R g ρ dr S' P') hs hw S P
end
/-! ### max(d.values()) -/
def tMaxVals (td : TE) : TE := fun σ H Q => td σ H fun x H1 => ∃ a kvs is, x = V.ref a ∧ Rd H1 a (.dK kvs) ∧ kvs.map (·.2) = is.map V.int ∧ is ≠ [] ∧ ∀ m, m ∈ is → (∀ j ∈ is, j ≤ m) → Q (.int m) H1
section
variable {X : Cx} {ce : Ce} {W : WX} {o : Expr} {p pos apos mpos : Pos} {td : TE} {ea : ES}
theorem pe_maxVals (hc : X.calm = true) (hg : Gl X "max") (hm : X.mg "max" = none) (hd : PE X o td) (hbase : attributeBase o "values" X.env (eval o X.env) = eval o X.env := by rfl) (hline : (apos.endLine == mpos.line) = true := by rfl)
    (hse : starEach [Expr.Call (.Attribute o "values" apos) [] [] mpos] X.env = [(false, eval (Expr.Call (.Attribute o "values" apos) [] [] mpos) X.env)] := by rfl) :
    PE X (.Call (.Name "max" p) [.Call (.Attribute o "values" apos) [] [] mpos] [] pos) (tMaxVals td) := by
  refine ⟨fun pins s σ H Q I h => ?_⟩
  refine wpAny_Call_Name_kw (ld_blt I hg hm (u := .builtin "max") (by first | rfl | decide +kernel) ?_ (by first | decide +kernel | decide) (by first | decide +kernel | decide))
  rw [hse]
  refine PySem.callWith_builtin1 (wpAny_Call_method0_late hbase hline (thn (hd.run pins s σ H _ I h) fun v s1 ⟨x, H1, I1, r1, a, kvs, is, ex, ha, hv, hne, q⟩ => ?_))
  subst ex
  obtain rfl : v = Value.ref a := r1
  obtain ⟨_, hsys, vs, rel, dof⟩ := dk_rd I1.hok ha
  obtain ⟨ep, dat⟩ := dof.dictAt
  have dat' := dat
  obtain ⟨ob, es, ho, ex, hdat, hko, hpr, hnd⟩ := dat'
  refine ⟨"dict", "dict.values", F.plainAttrs_dict, F.slot_dict_values, F.type_dict_values, ⟨ob, ho, ex.1⟩, fun b e => ?_, Calls.callWith_builtin rfl (PySem.evalArgs_none ?_)⟩
  · cases e
    exact ⟨ob, ho, ex.2.1⟩
  refine call_meetsIn F.slot_dict_values ⟨ob, ho, ex.1⟩ F.entry_dict_values (F.args_dict_values_1 _) (meets_dict_values (mixKind X.prog X.w) a hsys) ⟨⟨vs, dof⟩, ?_⟩
  have k1 : ∀ b u, s1.heap.get? b = some u → (s1.heap.push { cls := .type "dict_values", data := .fields #[.ref a] }).get? b = some u := fun b u e => Heap.get?_push_of_some _ e
  have dat1 : (s1.heap.push { cls := .type "dict_values", data := .fields #[.ref a] }).DictAt (mixKind X.prog X.w) a vs ep := dat.keep k1
  have hlv : vs.length = is.length := by
    have e1 := congrArg List.length hv
    rw [List.length_map, List.length_map] at e1
    rw [← e1]
    exact (KV.length rel).symm
  have hlen : 0 < vs.length := by
    rw [hlv]
    exact List.length_pos_iff.mpr hne
  have hval : ∀ (i : Nat) (v : Value), (∃ k, vs[i]? = some (k, v)) → ∃ t, v = Value.int (is.getD i 0) t := fun i v ⟨k, hk⟩ => by
    obtain ⟨x, h1, h2⟩ := KV.at' rel hk
    have e1 : (kvs.map (·.2))[i]? = some x := by rw [List.getElem?_map, h1] <;> rfl
    rw [hv, List.getElem?_map] at e1
    obtain ⟨j, hj, e2⟩ := Option.map_eq_some_iff.mp e1
    subst e2
    obtain ⟨t, e3⟩ := h2
    refine ⟨t, ?_⟩
    rw [e3, List.getD_eq_getElem?_getD, hj] <;> rfl
  refine call_max_walk (wpAny_pyIter_values (v := s1.heap.objs.size) (d := a) ⟨_, Heap.get?_push_size _ rfl, rfl, rfl⟩ dat1 ?_)
  have hlt : a < s1.heap.objs.size := Heap.lt_size ho
  have hsz : (s1.heap.push { cls := .type "dict_values", data := .fields #[.ref a] }).objs.size = s1.heap.objs.size + 1 := Heap.size_push _ _
  refine ⟨_, _, _, _, _, _, _, rfl, Walks.dictValues (knd := mixKind X.prog X.w) (A := X.A.in1) (I.ok.hd hc) (s1.heap.push { cls := .type "dict_values", data := .fields #[.ref a] }).objs.size a (by rw [hsz]; exact Nat.ne_of_lt (Nat.lt_succ_of_lt hlt)) vs ep,
    ⟨⟨_, Heap.get?_push_size _ rfl, rfl, rfl⟩, dat1.keep fun b u e => Heap.get?_push_of_some _ e⟩, fun b hb => ?_, hlen, CmpOf.ints_gt (fun i => is.getD i 0) hval, fun v h' tk hP hk => ?_⟩
  · show b < ((s1.heap.push _).push _).objs.size
    rw [Heap.size_push, Heap.size_push]
    rw [hsz] at hb
    rcases List.mem_cons.mp hb with e | hb
    · rw [e]
      exact Nat.lt_succ_self _
    · have e : b = a := List.mem_singleton.mp hb
      rw [e]
      exact Nat.lt_succ_of_lt (Nat.lt_succ_of_lt hlt)
  · obtain ⟨t, rfl⟩ := hval _ v hP
    obtain ⟨b1', b2'⟩ := argBest_gt (fun i => is.getD i 0) (vs.length - 1)
    have b1 : argBest (fun i j => decide (is.getD i 0 > is.getD j 0)) (vs.length - 1) ≤ vs.length - 1 := b1'
    have b2 : ∀ j, j ≤ vs.length - 1 → is.getD j 0 ≤ is.getD (argBest (fun i j => decide (is.getD i 0 > is.getD j 0)) (vs.length - 1)) 0 := b2'
    refine ⟨.int _, H1, I1.kept (t' := tk) fun b u e => hk b u (fun hmem => ?_) (Heap.get?_push_of_some _ (k1 b u e)), ⟨t, rfl⟩, q _ ?_ fun j hj => ?_⟩
    · have e1 : b = (s1.heap.push { cls := .type "dict_values", data := .fields #[.ref a] }).objs.size := List.mem_singleton.mp hmem
      have e2 := Heap.lt_size e
      rw [hsz] at e1
      rw [e1] at e2
      exact absurd e2 (Nat.not_lt.mpr (Nat.le_succ _))
    · have hb : argBest (fun i j => decide (is.getD i 0 > is.getD j 0)) (vs.length - 1) < is.length := by omega
      rw [List.getD_eq_getElem?_getD, List.getElem?_eq_getElem hb]
      exact List.getElem_mem hb
    · obtain ⟨i, hi, e⟩ := List.mem_iff_getElem.mp hj
      have e2 : is.getD i 0 = j := by rw [List.getD_eq_getElem?_getD, List.getElem?_eq_getElem hi, ← e] <;> rfl
      rw [← e2]
      exact b2 i (by omega)
def dMaxV : D → Option D
  | .dic _ vs => match vs.mapM asInt with
    | some (x :: xs) => some (.int (maxL (x :: xs)))
    | _ => none
  | _ => none
theorem ye_maxVals (hc : X.calm = true) (hm : X.mg "max" = none) (hd : YE X ce W o ea) (hg : Gl X "max" := by rfl) (hbase : attributeBase o "values" X.env (eval o X.env) = eval o X.env := by rfl) (hline : (apos.endLine == mpos.line) = true := by rfl)
    (hse : starEach [Expr.Call (.Attribute o "values" apos) [] [] mpos] X.env = [(false, eval (Expr.Call (.Attribute o "values" apos) [] [] mpos) X.env)] := by rfl) :
    YE X ce W (.Call (.Name "max" p) [.Call (.Attribute o "values" apos) [] [] mpos] [] pos) (sUn dMaxV ea) := by
  refine pe_imp (pe_maxVals hc hg hm hd hbase hline hse) fun σ H Q ⟨g, ρ, dr, S, P⟩ => ?_
  refine ⟨g, ρ, dr, S, (Post.bind P).mono fun d dr1 H1 _ E1 S1 P1 v R1 => ?_⟩
  cases hz : dMaxV d with
  | none => rw [hz] at P1; exact P1.elim
  | some z =>
    rw [hz] at P1
    unfold dMaxV at hz
    split at hz
    · rename_i ks vs
      split at hz
      · rename_i x xs hx
        cases hz
        cases R1 with
        | @dic p' _ us _ h n hl r =>
          obtain ⟨o', h⟩ := h
          have key : ∀ {us : List V} {vs : List D} {is : List Int}, Reps X.K ce g.L H1 g.A us vs → vs.mapM asInt = some is → us = is.map V.int := by
            intro us vs is r
            induction vs generalizing us is with
            | nil =>
              intro h
              cases r
              cases h
              rfl
            | cons d vs ih =>
              intro h
              cases r with
              | cons r1 t =>
                rw [List.mapM_cons] at h
                cases ha : asInt d with
                | none => rw [ha] at h; cases h
                | some i =>
                  rw [ha] at h
                  cases hm : vs.mapM asInt with
                  | none => rw [hm] at h; cases h
                  | some js =>
                    rw [hm] at h
                    cases h
                    rw [List.map_cons, ← ih t hm]
                    cases d with
                    | int b =>
                      cases ha
                      cases r1
                      rfl
                    | _ => cases ha
          have ku := key r hx
          refine ⟨p', _, x :: xs, rfl, .inr ⟨o', h⟩, ?_, by simp, fun m hm hle => ?_⟩
          · rw [List.map_snd_zip (by omega)]
            exact ku
          · have := maxL_spec x xs hm hle
            rw [this]
            exact Post.ok P1 S1 _ (.int _)
      · cases hz
    · cases hz
/-- len(d), d a datum -/
def dLenD : List D → Option D
  | [.dic ks _] => some (.int ks.length)
  | _ => none
theorem call_lenD : CallR X (.builtin "len") (fun xs H Q => ∃ p kvs, xs = [.ref p] ∧ Rd H p (.dK kvs) ∧ Q (.int kvs.length) H) := by
  intro pins s σ H xs us Q I r h
  obtain ⟨p, kvs, rfl, e, q⟩ := h
  rw [Vals.ref1 r]
  exact d_len I e fun t s' I' => ⟨.int _, H, I', ⟨t, rfl⟩, q⟩
theorem cs_lenD : CalS X ce (.builtin "len") dLenD := by
  refine ⟨_, call_lenD, fun g σ ρ dr H vs ds z Q S rs hz q => ?_⟩
  unfold dLenD at hz
  split at hz
  · cases hz
    cases rs with
    | cons r t =>
      cases t
      obtain ⟨p, us, rfl, z1, s1, r1⟩ := r.dic
      refine ⟨p, _, rfl, s1, ?_⟩
      have hz : ∀ (ks : List Key), ks.length = us.length → (ks.zip us).length = ks.length := fun ks h => by rw [List.length_zip, h]; exact Nat.min_self _
      rw [hz _ z1]
      exact q H _ .refl S (.int _)
  · cases hz
end
end TP

set_option Elab.async false
set_option linter.all false
set_option maxRecDepth 100000
set_option maxHeartbeats 4000000
namespace TP
open PySem L2
/-! ### plain: how the semantics computes -/
@[simp] theorem bind_ok {α β : Type} (a : α) (dr : Dr) (k : α → Dr → Res β) : (Res.ok a dr).bind k = k a dr := rfl
@[simp] theorem bind_exc {α β : Type} (x : Ex) (dr : Dr) (k : α → Dr → Res β) : (Res.exc x dr : Res α).bind k = .exc x dr := rfl
@[simp] theorem bind_fail {α β : Type} (k : α → Dr → Res β) : (Res.fail : Res α).bind k = .fail := rfl
@[simp] theorem lift_some {α : Type} (a : α) (dr : Dr) : lift (some a) dr = .ok a dr := rfl
theorem fD_rt {n : Nat} {b : SS} {ds : List D} {dr dr' : Dr} {d : D} (h : b (ds.map Sl.val ++ List.replicate (n - ds.length) .un) dr = .ok (.rt d) dr') : fD n b ds dr = .ok d dr' := by
  unfold fD
  rw [h]
theorem fD_exc {n : Nat} {b : SS} {ds : List D} {dr dr' : Dr} {x : Ex} (h : b (ds.map Sl.val ++ List.replicate (n - ds.length) .un) dr = .exc x dr') : fD n b ds dr = .exc x dr' := by
  unfold fD
  rw [h]
theorem fD_nx {n : Nat} {b : SS} {ds : List D} {dr dr' : Dr} {ρ : List Sl} (h : b (ds.map Sl.val ++ List.replicate (n - ds.length) .un) dr = .ok (.nx ρ) dr') : fD n b ds dr = .ok .non dr' := by
  unfold fD
  rw [h]
theorem sSeq_nx {a b : SS} {ρ ρ' : List Sl} {dr dr' : Dr} (h : a ρ dr = .ok (.nx ρ') dr') : sSeq a b ρ dr = b ρ' dr' := by
  unfold sSeq
  rw [h]
theorem sSeq_rt {a b : SS} {ρ : List Sl} {dr dr' : Dr} {d : D} (h : a ρ dr = .ok (.rt d) dr') : sSeq a b ρ dr = .ok (.rt d) dr' := by
  unfold sSeq
  rw [h]
theorem sSeq_exc {a b : SS} {ρ : List Sl} {dr dr' : Dr} {x : Ex} (h : a ρ dr = .exc x dr') : sSeq a b ρ dr = .exc x dr' := by
  unfold sSeq
  rw [h]
theorem pl_fmod {a b : Int} (hb : 0 < b) : 0 ≤ a.fmod b ∧ a.fmod b < b := ⟨Int.fmod_nonneg_of_pos a hb, Int.fmod_lt_of_pos a hb⟩
theorem dDiv_ok {i j : Int} (h0 : j ≠ 0) (h : j.natAbs.log2 < 9000) : dDiv (.int i) (.int j) = some (.int (i.fdiv j)) := if_pos ⟨h0, h⟩
theorem dMod_ok {i j : Int} (h0 : j ≠ 0) : dMod (.int i) (.int j) = some (.int (i.fmod j)) := if_pos h0
theorem dMul_ok {i j : Int} (h : mulB i j = true) : dMul (.int i) (.int j) = some (.int (i * j)) := if_pos h
theorem dPow_ok {i j : Int} (h0 : 0 ≤ j) (h1 : j ≤ 1000) (h2 : i.natAbs < 2 ^ 64) : dPow (.int i) (.int j) = some (.int (i ^ j.toNat)) := if_pos ⟨h0, h1, h2⟩
theorem mulB_r {i j : Int} (h : j.natAbs < 18446744073709551616) : mulB i j = true := by
  unfold mulB
  rw [Bool.or_eq_true, Bool.or_eq_true]
  exact .inl (.inr (decide_eq_true h))
theorem mulB_l {i j : Int} (h : i.natAbs < 18446744073709551616) : mulB i j = true := by
  unfold mulB
  rw [Bool.or_eq_true, Bool.or_eq_true]
  exact .inl (.inl (decide_eq_true h))
/-- the inner loop of _law_mixed -/
theorem mixed_in {great t : Int} (hg : 0 < great) (fnd : Int) (dr : Dr) : ∀ (cs : List Int) (v : Int) (s5 : Sl), 0 ≤ v → v < great →
    ∃ v' s5', fGo (gN 5) (sSet 4 (zV (sBin dMod (sBin dAdd (sBin dAdd (sBin dMul (sVar 4) (sC (.int 69621))) (sCall dInt (sCons (sVar 5) sNil))) (sVar 1)) (sVar 3)))) (cs.map D.int) [.val .draw, .val (.int t), .val (.int fnd), .val (.int great), .val (.int v), s5] dr
      = .ok (.nx [.val .draw, .val (.int t), .val (.int fnd), .val (.int great), .val (.int v'), s5']) dr ∧ 0 ≤ v' ∧ v' < great
  | [], v, s5, h0, h1 => ⟨v, s5, rfl, h0, h1⟩
  | c :: cs, v, s5, h0, h1 => by
    have hm : mulB v 69621 = true := by unfold mulB; simp
    have hne : great ≠ 0 := by omega
    obtain ⟨b0, b1⟩ := pl_fmod (a := v * 69621 + c + t) hg
    obtain ⟨v', s5', e, k⟩ := mixed_in hg fnd dr cs ((v * 69621 + c + t).fmod great) (.val (.int c)) b0 b1
    refine ⟨v', s5', ?_, k⟩
    rw [← e, List.map_cons, fGo]
    simp [gN, sSet, zV, sBin, sVar, sC, sCall, sCons, sNil, dMul, dAdd, dMod, dInt, hm, hne]

def sMixBody : SS := (sSeq (sSet 4 (zV (sBin dMod (sBin dAdd (sBin dMul (sVar 1) (sC (.int 48271))) (sBin dDiv (sVar 3) (sC (.int 11)))) (sVar 3)))) (sSeq (sFor (sDrCells 0) (gN 5) (sSet 4 (zV (sBin dMod (sBin dAdd (sBin dAdd (sBin dMul (sVar 4) (sC (.int 69621))) (sCall dInt (sCons (sVar 5) sNil))) (sVar 1)) (sVar 3))))) (sSet 2 (zV (sBin dAdd (sBin dMul (sVar 2) (sC (.int 2147483659))) (sBin dMod (sBin dPow (sVar 4) (sC (.int 5))) (sVar 3)))))))
theorem mix_turn {great t : Int} (hg : 0 < great) (hg2 : great < 18446744073709551616) (fnd : Int) (dr : Dr) (s3 s4 s5 : Sl) : ∃ f' v' s5', sMixBody [.val .draw, .val (.int t), .val (.int fnd), .val (.int great), s4, s5] dr = .ok (.nx [.val .draw, .val (.int t), .val (.int f'), .val (.int great), .val (.int v'), s5']) dr := by
  have hne : great ≠ 0 := by omega
  have h1 : mulB t 48271 = true := by unfold mulB; simp
  have h2 : mulB fnd 2147483659 = true := by unfold mulB; simp
  have hd := dDiv_ok (i := great) (j := 11) (by decide) (by decide)
  obtain ⟨b0, b1⟩ := pl_fmod (a := t * 48271 + great.fdiv 11) hg
  obtain ⟨v', s5', e, k0, k1⟩ := mixed_in (t := t) hg fnd dr dr.cells ((t * 48271 + great.fdiv 11).fmod great) s5 b0 b1
  have hp := dPow_ok (i := v') (j := 5) (by decide) (by decide) (by omega)
  refine ⟨fnd * 2147483659 + (v' ^ 5).fmod great, v', s5', ?_⟩
  unfold sMixBody
  simp [sSeq, sFor, sDrCells, isDr, sSet, zV, sBin, sVar, sC, sCall, sCons, sNil, dMul, dAdd, dMod, h1, h2, hd, hp, hne, e]

def sMixed : SS := (sSeq (sDrSet 0 (fun dr x => { dr with turn := x }) (sBin dAdd (sDr 0 Dr.turn) (sC (.int 1)))) (sSeq (sPar [1, 2] (zCons (zV (sCall dInt (sCons (sDr 0 Dr.turn) sNil))) (zCons (zV (sC (.int 0))) zNil))) (sSeq (sFor (sItems (sL (sLst (sCons (sC (.int 2147483647)) (sCons (sC (.int 2147483629)) (sCons (sC (.int 2147483587)) sNil)))))) (gN 3) sMixBody) (sRet (sVar 2)))))
theorem mixed_ok (dr : Dr) : ∃ v dr', fD 6 sMixed [.draw] dr = .ok (.int v) dr' ∧ dr'.large = dr.large := by
  have hz : (3 : Nat) ≤ sizeLine := by decide
  obtain ⟨f1, v1, a1, e1⟩ := mix_turn (great := 2147483647) (t := dr.turn + 1) (by decide) (by decide) 0 { dr with turn := dr.turn + 1 } .un .un .un
  obtain ⟨f2, v2, a2, e2⟩ := mix_turn (great := 2147483629) (t := dr.turn + 1) (by decide) (by decide) f1 { dr with turn := dr.turn + 1 } .un (.val (.int v1)) a1
  obtain ⟨f3, v3, a3, e3⟩ := mix_turn (great := 2147483587) (t := dr.turn + 1) (by decide) (by decide) f2 { dr with turn := dr.turn + 1 } .un (.val (.int v2)) a2
  refine ⟨f3, { dr with turn := dr.turn + 1 }, ?_, rfl⟩
  unfold fD sMixed
  simp [sSeq, sFor, sDrSet, sDr, isDr, sPar, zCons, zNil, sItems, asSeq, sL, sLst, hz, sSet, zV, sBin, sVar, sC, sCall, sCons, sNil, dAdd, dInt, fGo, gN, e1, e2, e3, sRet]
def sTake (mixed : FS) : SS := (sSeq (sIfS (sBin dEq (sDr 0 Dr.rest) (sC (.int 0))) (sDrSet 0 (fun dr x => { dr with rest := x }) (sIf (sDrHas 0) (sDrPop 0) (sCallF mixed (sCons (sVar 0) sNil)))) sNext) (sSeq (sSet 2 (zV (sBin dMod (sCall dInt (sCons (sDr 0 Dr.rest) sNil)) (sVar 1)))) (sSeq (sDrSet 0 (fun dr x => { dr with rest := x }) (sBin dDiv (sCall dInt (sCons (sDr 0 Dr.rest) sNil)) (sVar 1))) (sRet (sVar 2)))))
theorem dEq_int (i j : Int) : dEq (.int i) (.int j) = some (.bl (decide (i = j))) := by
  show (if dOk 60 (.int i) = true ∧ dOk 60 (.int j) = true then some (D.bl (dEqv (.int i) (.int j))) else none) = _
  rw [if_pos ⟨rfl, rfl⟩]
  congr 2
theorem take_ok (dr : Dr) {m : Int} (h0 : 0 < m) (h : m.natAbs.log2 < 9000) : ∃ r dr', fD 3 (sTake (fD 6 sMixed)) [.draw, .int m] dr = .ok (.int r) dr' ∧ 0 ≤ r ∧ r < m := by
  have hne : m ≠ 0 := by omega
  have fin : ∀ dr : Dr, ∃ r dr', sSeq (sSet 2 (zV (sBin dMod (sCall dInt (sCons (sDr 0 Dr.rest) sNil)) (sVar 1)))) (sSeq (sDrSet 0 (fun dr x => { dr with rest := x }) (sBin dDiv (sCall dInt (sCons (sDr 0 Dr.rest) sNil)) (sVar 1))) (sRet (sVar 2))) [.val .draw, .val (.int m), .un] dr = .ok (.rt (.int r)) dr' ∧ 0 ≤ r ∧ r < m := fun dr => by
    obtain ⟨b0, b1⟩ := pl_fmod (a := dr.rest) h0
    refine ⟨dr.rest.fmod m, { dr with rest := dr.rest.fdiv m }, ?_, b0, b1⟩
    simp [sSeq, sSet, zV, sBin, sVar, sC, sCall, sCons, sNil, sDr, sDrSet, isDr, dInt, dMod_ok hne, dDiv_ok hne h, sRet]
  have start : ∃ dr1, sIfS (sBin dEq (sDr 0 Dr.rest) (sC (.int 0))) (sDrSet 0 (fun dr x => { dr with rest := x }) (sIf (sDrHas 0) (sDrPop 0) (sCallF (fD 6 sMixed) (sCons (sVar 0) sNil)))) sNext [.val .draw, .val (.int m), .un] dr = .ok (.nx [.val .draw, .val (.int m), .un]) dr1 := by
    by_cases hr : dr.rest = 0
    · cases hl : dr.large with
      | cons x l =>
        refine ⟨{ dr with large := l, rest := x }, ?_⟩
        simp [sIfS, sT, sBin, sDr, isDr, sC, hr, dEq_int, sDrSet, sIf, sDrHas, hl, sDrPop]
      | nil =>
        obtain ⟨v, dr', e, _⟩ := mixed_ok dr
        refine ⟨{ dr' with rest := v }, ?_⟩
        simp [sIfS, sT, sBin, sDr, isDr, sC, hr, dEq_int, sDrSet, sIf, sDrHas, hl, sCallF, sCons, sVar, sNil, e]
    · refine ⟨dr, ?_⟩
      simp [sIfS, sT, sBin, sDr, isDr, sC, hr, dEq_int, sNext]
  obtain ⟨dr1, e1⟩ := start
  obtain ⟨r, dr2, e2, k⟩ := fin dr1
  refine ⟨r, dr2, ?_, k⟩
  refine fD_rt (show sTake (fD 6 sMixed) [.val .draw, .val (.int m), .un] dr = _ from ?_)
  unfold sTake
  rw [sSeq_nx e1]
  exact e2

/-! ### _law_kinds, _law_says -/
def fuel0 : List Sl → Dr → Nat := fun _ _ => 1000000
mutual
def szD : D → Nat
  | .lst l => 1 + szDs l
  | .tup l => 1 + szDs l
  | _ => 1
def szDs : List D → Nat
  | [] => 0
  | d :: l => szD d + szDs l
end
theorem szDs_append : ∀ a b : List D, szDs (a ++ b) = szDs a + szDs b
  | [], b => by simp [szDs]
  | d :: a, b => by
    show szD d + szDs (a ++ b) = szD d + szDs a + szDs b
    rw [szDs_append a b, Nat.add_assoc]
theorem szD_pos (d : D) : 1 ≤ szD d := by cases d <;> unfold szD <;> omega
theorem szDs_len : ∀ l : List D, l.length ≤ szDs l
  | [] => Nat.le_refl _
  | d :: l => by
    have h1 := szD_pos d
    have h2 := szDs_len l
    show l.length + 1 ≤ szD d + szDs l
    omega
mutual
theorem dOk_mono : ∀ (n : Nat) (d : D), dOk n d = true → dOk (n + 1) d = true
  | _, .non, _ => by simp [dOk]
  | _, .bl _, _ => by simp [dOk]
  | _, .int _, _ => by simp [dOk]
  | _, .str x, h => by simpa [dOk] using h
  | 0, .lst _, h => by simp [dOk] at h
  | 0, .tup _, h => by simp [dOk] at h
  | n + 1, .lst l, h => by simp only [dOk] at h ⊢; exact dOks_mono n l h
  | n + 1, .tup l, h => by simp only [dOk] at h ⊢; exact dOks_mono n l h
  | _, .dic _ _, h => by simp [dOk] at h
  | _, .err _ _ _, h => by simp [dOk] at h
  | _, .draw, h => by simp [dOk] at h
  | _, .scr _, h => by simp [dOk] at h
theorem dOks_mono : ∀ (n : Nat) (l : List D), dOks n l = true → dOks (n + 1) l = true
  | _, [], _ => by simp [dOks]
  | n, d :: l, h => by
    simp only [dOks, Bool.and_eq_true] at h ⊢
    exact ⟨dOk_mono n d h.1, dOks_mono n l h.2⟩
end
mutual
theorem dEqv_self : ∀ (n : Nat) (d : D), dOk n d = true → dEqv d d = true
  | _, .non, _ => by simp [dEqv]
  | _, .bl _, _ => by simp [dEqv]
  | _, .int _, _ => by simp [dEqv]
  | _, .str x, h => by simp [dEqv]
  | 0, .lst _, h => by simp [dOk] at h
  | 0, .tup _, h => by simp [dOk] at h
  | n + 1, .lst l, h => by simp only [dOk] at h; simp only [dEqv]; exact dEqvs_self n l h
  | n + 1, .tup l, h => by simp only [dOk] at h; simp only [dEqv]; exact dEqvs_self n l h
  | _, .dic _ _, h => by simp [dOk] at h
  | _, .err _ _ _, h => by simp [dOk] at h
  | _, .draw, h => by simp [dOk] at h
  | _, .scr _, h => by simp [dOk] at h
theorem dEqvs_self : ∀ (n : Nat) (l : List D), dOks n l = true → dEqvs l l = true
  | _, [], _ => by simp [dEqvs]
  | n, d :: l, h => by
    simp only [dOks, Bool.and_eq_true] at h
    simp only [dEqvs, Bool.and_eq_true]
    exact ⟨dEqv_self n d h.1, dEqvs_self n l h.2⟩
end
theorem dOks_append {n : Nat} : ∀ a b : List D, dOks n (a ++ b) = (dOks n a && dOks n b)
  | [], b => by simp [dOks]
  | d :: a, b => by
    show (dOk n d && dOks n (a ++ b)) = (dOk n d && dOks n a && dOks n b)
    rw [dOks_append a b, Bool.and_assoc]
theorem dEq_self {d : D} (h : dOk 60 d = true) : dEq d d = some (.bl true) := by
  unfold dEq
  rw [if_pos ⟨h, h⟩, dEqv_self 60 d h]
theorem dEq_str {x y : Str} (hx : PyData.strOk x = true) (hy : PyData.strOk y = true) : dEq (.str x) (.str y) = some (.bl (x == y)) := by
  unfold dEq
  rw [if_pos ⟨by simpa [dOk] using hx, by simpa [dOk] using hy⟩]
  simp [dEqv]
theorem dIn_str {x : Str} (hx : PyData.strOk x = true) : ∀ {l : List Str}, (l.all PyData.strOk = true) → dIn (.str x) (.lst (l.map D.str)) = some (.bl (l.any fun z => z == x)) := fun {l} hl => by
  have ok : dOk 60 (.lst (l.map D.str)) = true := by
    simp only [dOk]
    induction l with
    | nil => simp [dOks]
    | cons a l ih =>
      rw [List.all_cons, Bool.and_eq_true] at hl
      simp only [List.map_cons, dOks, Bool.and_eq_true]
      exact ⟨by simpa [dOk] using hl.1, ih hl.2⟩
  show (if dOk 60 (.str x) = true ∧ dOk 60 (.lst (l.map D.str)) = true then some (D.bl ((l.map D.str).any fun z => dEqv z (.str x))) else none) = _
  rw [if_pos ⟨by simpa [dOk] using hx, ok⟩]
  congr 2
  clear ok hl
  induction l with
  | nil => rfl
  | cons a l ih => rw [List.map_cons, List.any_cons, List.any_cons, ih]; simp [dEqv]
/-- the turn of _law_kinds (X: where a dict is met) -/
def sKBody (X : SS) : SS := (sSeq (sPop 3 2) (sSeq (sSet 4 (zV (sIf (sIs (isB .tuple) (sVar 3)) (sC (.str "tuple")) (sIf (sIs (isB .list) (sVar 3)) (sC (.str "list")) (sIf (sIs (isB .dict) (sVar 3)) (sC (.str "dict")) (sIf (sIs (isB .bool) (sVar 3)) (sC (.str "bool")) (sC (.str "other")))))))) (sSeq (sApp 1 (sVar 4)) (sSeq (sIfS (sBin dIn (sVar 4) (sL (sLst (sCons (sC (.str "tuple")) (sCons (sC (.str "list")) sNil))))) (sSet 2 (zF (sCat (sVarB 2) (sL (sItems (sVar 3)))))) sNext) (sIfS (sBin dEq (sVar 4) (sC (.str "dict"))) X sNext)))))
def kids : D → List D
  | .lst l => l
  | .tup l => l
  | _ => []
def kindD : D → Str
  | .lst _ => "list"
  | .tup _ => "tuple"
  | .bl _ => "bool"
  | _ => "other"
theorem szD_kids (d : D) : szD d = 1 + szDs (kids d) := by cases d <;> simp [szD, kids, szDs]
theorem kids_ok {d : D} {n : Nat} (h : dOk n d = true) : dOks n (kids d) = true := by
  cases d with
  | lst l =>
    cases n with
    | zero => simp [dOk] at h
    | succ n => simp only [dOk] at h; exact dOks_mono n l h
  | tup l =>
    cases n with
    | zero => simp [dOk] at h
    | succ n => simp only [dOk] at h; exact dOks_mono n l h
  | _ => simp [kids, dOks]
theorem k_turn (X : SS) (dr : Dr) (t : D) (fnd line : List D) (here : D) (s3 s4 s5 s6 s7 : Sl) (ho : dOk 59 here = true) (h1 : fnd.length < sizeLine) (h2 : line.length + (kids here).length ≤ sizeLine) :
    sKBody X [.val t, .own fnd, .own (line ++ [here]), s3, s4, s5, s6, s7] dr = .ok (.nx [.val t, .own (fnd ++ [.str (kindD here)]), .own (line ++ kids here), .val here, .val (.str (kindD here)), s5, s6, s7]) dr := by
  have hz : (2 : Nat) ≤ sizeLine := by decide
  have hl : (line ++ [here]).length - 1 = line.length := by simp
  have i1 : ∀ x : Str, x = "tuple" ∨ x = "list" → dIn (.str x) (.lst [.str "tuple", .str "list"]) = some (.bl true) := by
    rintro x (rfl | rfl) <;> exact (dIn_str (l := ["tuple", "list"]) (by decide +kernel) (by decide +kernel)).trans (congrArg (fun b => some (D.bl b)) (by decide +kernel))
  have i2 : ∀ x : Str, x = "bool" ∨ x = "other" → dIn (.str x) (.lst [.str "tuple", .str "list"]) = some (.bl false) := by
    rintro x (rfl | rfl) <;> exact (dIn_str (l := ["tuple", "list"]) (by decide +kernel) (by decide +kernel)).trans (congrArg (fun b => some (D.bl b)) (by decide +kernel))
  have e1 : ∀ x : Str, x = "tuple" ∨ x = "list" ∨ x = "bool" ∨ x = "other" → dEq (.str x) (.str "dict") = some (.bl false) := by
    rintro x (rfl | rfl | rfl | rfl) <;> exact (dEq_str (by decide +kernel) (by decide +kernel)).trans (congrArg (fun b => some (D.bl b)) (by decide +kernel))
  unfold sKBody
  cases here with
  | lst l => simp [sSeq, sPop, sSet, zV, zF, sIf, sT, sIs, isB, sVar, sVarB, sC, sApp, sIfS, sBin, sL, sLst, sCons, sNil, sCat, sItems, asSeq, sNext, kids, kindD, h1, h2, hz, i1, i2, e1, show line.length + l.length ≤ sizeLine from h2]
  | tup l => simp [sSeq, sPop, sSet, zV, zF, sIf, sT, sIs, isB, sVar, sVarB, sC, sApp, sIfS, sBin, sL, sLst, sCons, sNil, sCat, sItems, asSeq, sNext, kids, kindD, h1, h2, hz, i1, i2, e1, show line.length + l.length ≤ sizeLine from h2]
  | bl b => simp [sSeq, sPop, sSet, zV, zF, sIf, sT, sIs, isB, sVar, sVarB, sC, sApp, sIfS, sBin, sL, sLst, sCons, sNil, sCat, sItems, asSeq, sNext, kids, kindD, h1, h2, hz, i1, i2, e1]
  | int b => simp [sSeq, sPop, sSet, zV, zF, sIf, sT, sIs, isB, sVar, sVarB, sC, sApp, sIfS, sBin, sL, sLst, sCons, sNil, sCat, sItems, asSeq, sNext, kids, kindD, h1, h2, hz, i1, i2, e1]
  | str b => simp [sSeq, sPop, sSet, zV, zF, sIf, sT, sIs, isB, sVar, sVarB, sC, sApp, sIfS, sBin, sL, sLst, sCons, sNil, sCat, sItems, asSeq, sNext, kids, kindD, h1, h2, hz, i1, i2, e1]
  | non => simp [sSeq, sPop, sSet, zV, zF, sIf, sT, sIs, isB, sVar, sVarB, sC, sApp, sIfS, sBin, sL, sLst, sCons, sNil, sCat, sItems, asSeq, sNext, kids, kindD, h1, h2, hz, i1, i2, e1]
  | _ => simp [dOk] at ho
/-- all of a loop of _law_kinds -/
theorem k_loop (X : SS) (dr : Dr) (t : D) : ∀ (n : Nat) (fnd line : List D) (s3 s4 s5 s6 s7 : Sl), dOks 59 line = true → szDs line < n → fnd.length + szDs line ≤ 1000000 →
    ∃ (add : List Str) (a3 a4 : Sl), wGo (sBin dNe (sVarB 2) (sL (sLst sNil))) (sKBody X) n [.val t, .own fnd, .own line, s3, s4, s5, s6, s7] dr = .ok (.nx [.val t, .own (fnd ++ add.map D.str), .own [], a3, a4, s5, s6, s7]) dr ∧ add.all PyData.strOk = true := by
  have hz : (1000000 : Nat) < sizeLine := by decide
  intro n
  induction n with
  | zero => intro fnd line s3 s4 s5 s6 s7 _ h; exact absurd h (Nat.not_lt_zero _)
  | succ n ih =>
    intro fnd line s3 s4 s5 s6 s7 hl hn hb
    have okl : dOk 60 (.lst line) = true := by simpa [dOk] using hl
    have ok0 : dOk 60 (.lst []) = true := by simp [dOk, dOks]
    have ne : dNe (.lst line) (.lst []) = some (.bl (!line.isEmpty)) := by
      unfold dNe
      rw [if_pos ⟨okl, ok0⟩]
      cases line <;> simp [dEqv, dEqvs]
    have tst : sT (sBin dNe (sVarB 2) (sL (sLst sNil))) [.val t, .own fnd, .own line, s3, s4, s5, s6, s7] dr = .ok (!line.isEmpty) dr := by
      simp [sT, sBin, sVarB, sL, sLst, sNil, ne]
    unfold wGo
    rw [tst]
    simp only [bind_ok]
    by_cases h0 : line = []
    · subst h0
      exact ⟨[], s3, s4, by simp, rfl⟩
    · obtain ⟨l, x, rfl⟩ : ∃ l x, line = l ++ [x] := ⟨line.dropLast, line.getLast h0, (List.dropLast_concat_getLast h0).symm⟩
      rw [dOks_append, Bool.and_eq_true] at hl
      have hx : dOk 59 x = true := by have := hl.2; simp only [dOks, Bool.and_true] at this; exact this
      have sx := szD_kids x
      rw [szDs_append] at hn hb
      have e1 : szDs [x] = szD x := by simp [szDs]
      rw [e1] at hn hb
      have l1 := szDs_len l
      have l2 := szDs_len (kids x)
      rw [k_turn X dr t fnd l x s3 s4 s5 s6 s7 hx (by omega) (by omega)]
      obtain ⟨add, a3, a4, e, k⟩ := ih (fnd ++ [.str (kindD x)]) (l ++ kids x) (.val x) (.val (.str (kindD x))) s5 s6 s7 (by rw [dOks_append, Bool.and_eq_true]; exact ⟨hl.1, kids_ok hx⟩) (by rw [szDs_append]; omega) (by rw [szDs_append, List.length_append, List.length_singleton]; omega)
      have ke : (!(l ++ [x]).isEmpty) = true := by simp
      rw [ke]
      refine ⟨kindD x :: add, a3, a4, ?_, ?_⟩
      · simp only [if_true]
        rw [e]
        simp
      · rw [List.all_cons, Bool.and_eq_true]
        refine ⟨?_, k⟩
        have q : PyData.strOk "list" = true ∧ PyData.strOk "tuple" = true ∧ PyData.strOk "bool" = true ∧ PyData.strOk "other" = true := by decide +kernel
        cases x <;> first | exact q.1 | exact q.2.1 | exact q.2.2.1 | exact q.2.2.2
def sKinds (X : SS) : SS := (sSeq (sPar [1, 2] (zCons (zF (sLst sNil)) (zCons (zF (sLst (sCons (sVar 0) sNil))) zNil))) (sSeq (sWhile fuel0 (sBin dNe (sVarB 2) (sL (sLst sNil))) (sKBody X)) (sRetO 1)))
theorem kinds_ok (X : SS) (dr : Dr) {d : D} (h : dOk 59 d = true) (hs : szD d < 1000000) : ∃ l : List Str, fD 8 (sKinds X) [d] dr = .ok (.lst (l.map D.str)) dr ∧ l.all PyData.strOk = true := by
  have hz : (1 : Nat) ≤ sizeLine := by decide
  obtain ⟨add, a3, a4, e, k⟩ := k_loop X dr d 1000000 [] [d] .un .un .un .un .un (by simp [dOks, h]) (by simp [szDs]; omega) (by simp [szDs]; omega)
  refine ⟨add, fD_rt ?_, k⟩
  unfold sKinds
  refine (sSeq_nx (ρ' := [.val d, .own [], .own [d], .un, .un, .un, .un, .un]) (dr' := dr) ?_).trans ((sSeq_nx (dr' := dr) e).trans ?_)
  · simp [sPar, zCons, zNil, zF, sLst, sCons, sNil, sVar, hz]
  · simp [sRetO, sShare, shareS, sRet, sVar]
def sSays (kinds : FS) : SS := (sRet (sAnd (sBin dEq (sVar 0) (sVar 1)) (sBin dEq (sCallF kinds (sCons (sVar 0) sNil)) (sCallF kinds (sCons (sVar 1) sNil)))))
/-- what is told is what is due -/
theorem says_ok (X : SS) (dr : Dr) {d : D} (h : dOk 59 d = true) (hs : szD d < 1000000) : fD 2 (sSays (fD 8 (sKinds X))) [d, d] dr = .ok (.bl true) dr := by
  obtain ⟨l, e, k⟩ := kinds_ok X dr h hs
  have e1 := dEq_self (dOk_mono 59 d h)
  have e2 : dEq (.lst (l.map D.str)) (.lst (l.map D.str)) = some (.bl true) := dEq_self (by
    simp only [dOk]
    clear e
    induction l with
    | nil => simp [dOks]
    | cons a l ih =>
      rw [List.all_cons, Bool.and_eq_true] at k
      simp only [List.map_cons, dOks, Bool.and_eq_true]
      exact ⟨by simpa [dOk] using k.1, ih k.2⟩)
  refine fD_rt ?_
  simp [sSays, sRet, sAnd, sBin, sVar, e1, e2, sCallF, sCons, sNil, e]
end TP

set_option Elab.async false
set_option linter.all false
set_option maxRecDepth 100000
set_option maxHeartbeats 4000000
namespace TP
open PySem L2
/-! ### plain: comprehensions and loops, told once -/
theorem cGo_fil {α : Type} {b : GS} {c : BS} {e : ES} {ρ : List Sl} {dr : Dr} (it : α → D) (p : α → Bool) (f : α → D) :
    ∀ (l : List α) (acc : List D), (∀ x ∈ l, ∃ ρ1, b (it x) ρ = some ρ1 ∧ c ρ1 dr = .ok (p x) dr ∧ (p x = true → e ρ1 dr = .ok (f x) dr)) →
      cGo b c e ρ (l.map it) acc dr = .ok (acc ++ (l.filter p).map f) dr
  | [], acc, _ => by simp [cGo]
  | x :: l, acc, h => by
    obtain ⟨ρ1, h1, h2, h3⟩ := h x (List.mem_cons_self ..)
    have t := fun a => cGo_fil it p f l a fun y hy => h y (List.mem_cons_of_mem _ hy)
    rw [List.map_cons, cGo]
    simp only [h1, h2]
    cases hp : p x with
    | true =>
      simp only [h3 hp, List.filter_cons_of_pos hp]
      refine (t _).trans ?_
      simp
    | false =>
      have : ¬ p x = true := by rw [hp]; exact fun z => by cases z
      simp only [List.filter_cons_of_neg this]
      exact t acc
/-- all items are taken -/
theorem cGo_map {α : Type} {b : GS} {e : ES} {ρ : List Sl} {dr : Dr} (it : α → D) (f : α → D) (l : List α) (acc : List D)
    (h : ∀ x ∈ l, ∃ ρ1, b (it x) ρ = some ρ1 ∧ e ρ1 dr = .ok (f x) dr) : cGo b cYes e ρ (l.map it) acc dr = .ok (acc ++ l.map f) dr := by
  have k := cGo_fil (b := b) (c := cYes) (e := e) (ρ := ρ) (dr := dr) it (fun _ => true) f l acc fun x hx => by
    obtain ⟨ρ1, h1, h2⟩ := h x hx
    exact ⟨ρ1, h1, rfl, fun _ => h2⟩
  rw [k]
  congr 3
  exact List.filter_eq_self.mpr fun _ _ => rfl
/-- elements are drawn -/
theorem cGo_draw {b : GS} {e : ES} {ρ : List Sl} (Q : D → D → Prop) : ∀ (l : List D) (acc : List D) (dr : Dr),
    (∀ x ∈ l, ∃ ρ1, b x ρ = some ρ1 ∧ ∀ dr, ∃ d dr', e ρ1 dr = .ok d dr' ∧ Q x d) →
      ∃ (m : List D) (dr' : Dr), cGo b cYes e ρ l acc dr = .ok (acc ++ m) dr' ∧ m.length = l.length ∧ (∀ d ∈ m, ∃ x ∈ l, Q x d) ∧ ∀ i (h : i < l.length) (k : i < m.length), Q l[i] m[i]
  | [], acc, dr, _ => ⟨[], dr, by simp [cGo], rfl, by simp, by simp⟩
  | x :: l, acc, dr, h => by
    obtain ⟨ρ1, h1, h2⟩ := h x (List.mem_cons_self ..)
    obtain ⟨d, dr1, e1, q⟩ := h2 dr
    obtain ⟨m, dr', e2, hl, hm, hi⟩ := cGo_draw Q l (acc ++ [d]) dr1 fun y hy => h y (List.mem_cons_of_mem _ hy)
    refine ⟨d :: m, dr', ?_, by simp [hl], ?_, ?_⟩
    · rw [cGo]
      simp only [h1, cYes, e1]
      rw [e2]
      simp
    · intro z hz
      rcases List.mem_cons.mp hz with rfl | hz
      · exact ⟨x, List.mem_cons_self .., q⟩
      · obtain ⟨y, hy, k⟩ := hm z hz
        exact ⟨y, List.mem_cons_of_mem _ hy, k⟩
    · intro i h1 h2
      cases i with
      | zero => exact q
      | succ i => exact hi i (by simpa using h1) (by simpa using h2)
/-- tests are drawn -/
theorem cGo_some {α : Type} {b : GS} {c : BS} {e : ES} {ρ : List Sl} (it : α → D) (f : α → D) : ∀ (l : List α) (acc : List D) (dr : Dr),
    (∀ x ∈ l, ∃ ρ1, b (it x) ρ = some ρ1 ∧ (∀ dr, ∃ p dr', c ρ1 dr = .ok p dr') ∧ ∀ dr, e ρ1 dr = .ok (f x) dr) →
      ∃ (m : List α) (dr' : Dr), cGo b c e ρ (l.map it) acc dr = .ok (acc ++ m.map f) dr' ∧ m.Sublist l
  | [], acc, dr, _ => ⟨[], dr, by simp [cGo], .slnil⟩
  | x :: l, acc, dr, h => by
    obtain ⟨ρ1, h1, h2, h3⟩ := h x (List.mem_cons_self ..)
    obtain ⟨p, dr1, e1⟩ := h2 dr
    rw [List.map_cons, cGo]
    simp only [h1, e1]
    cases p with
    | true =>
      obtain ⟨m, dr', e2, s⟩ := cGo_some it f l (acc ++ [f x]) dr1 fun y hy => h y (List.mem_cons_of_mem _ hy)
      refine ⟨x :: m, dr', ?_, s.cons_cons x⟩
      simp only [h3]
      rw [e2]
      simp
    | false =>
      obtain ⟨m, dr', e2, s⟩ := cGo_some it f l acc dr1 fun y hy => h y (List.mem_cons_of_mem _ hy)
      exact ⟨m, dr', e2, s.cons x⟩
/-- a loop that goes through, by its invariant -/
theorem fGo_all {b : GS} {body : SS} (I : List D → List Sl → Prop)
    (h : ∀ x xs ρ dr, I (x :: xs) ρ → ∃ ρ1, b x ρ = some ρ1 ∧ ∃ ρ2 dr2, body ρ1 dr = .ok (.nx ρ2) dr2 ∧ I xs ρ2) :
    ∀ (l : List D) (ρ : List Sl) (dr : Dr), I l ρ → ∃ ρ' dr', fGo b body l ρ dr = .ok (.nx ρ') dr' ∧ I [] ρ'
  | [], ρ, dr, i => ⟨ρ, dr, rfl, i⟩
  | x :: l, ρ, dr, i => by
    obtain ⟨ρ1, h1, ρ2, dr2, h2, i2⟩ := h x l ρ dr i
    obtain ⟨ρ', dr', e, i'⟩ := fGo_all I h l ρ2 dr2 i2
    refine ⟨ρ', dr', ?_, i'⟩
    rw [fGo]
    simp only [h1, h2, e]
/-- the same, nothing drawn -/
theorem fGo_fold {α S : Type} {b : GS} {body : SS} {dr : Dr} (it : α → D) (P : S → List Sl → Prop) (step : S → α → S) :
    ∀ (l : List α) (s : S) (ρ : List Sl), (∀ s x ρ, x ∈ l → P s ρ → ∃ ρ1, b (it x) ρ = some ρ1 ∧ ∃ ρ2, body ρ1 dr = .ok (.nx ρ2) dr ∧ P (step s x) ρ2) →
      P s ρ → ∃ ρ', fGo b body (l.map it) ρ dr = .ok (.nx ρ') dr ∧ P (l.foldl step s) ρ'
  | [], s, ρ, _, i => ⟨ρ, rfl, i⟩
  | x :: l, s, ρ, h, i => by
    obtain ⟨ρ1, h1, ρ2, h2, i2⟩ := h s x ρ (List.mem_cons_self ..) i
    obtain ⟨ρ', e, i'⟩ := fGo_fold it P step l (step s x) ρ2 (fun s y ρ hy => h s y ρ (List.mem_cons_of_mem _ hy)) i2
    refine ⟨ρ', ?_, i'⟩
    rw [List.map_cons, fGo]
    simp only [h1, h2, e]
/-- a loop that may return: the first item that tells something -/
theorem fGo_find {α : Type} {b : GS} {body : SS} {dr : Dr} (it : α → D) (P : List Sl → Prop) (p : α → Bool) (f : α → D) :
    ∀ (l : List α) (ρ : List Sl), (∀ x ρ, x ∈ l → P ρ → ∃ ρ1, b (it x) ρ = some ρ1 ∧ ((p x = true → body ρ1 dr = .ok (.rt (f x)) dr) ∧ (p x = false → ∃ ρ2, body ρ1 dr = .ok (.nx ρ2) dr ∧ P ρ2))) →
      P ρ → (∃ x, l.find? p = some x ∧ fGo b body (l.map it) ρ dr = .ok (.rt (f x)) dr) ∨ (l.find? p = none ∧ ∃ ρ', fGo b body (l.map it) ρ dr = .ok (.nx ρ') dr ∧ P ρ')
  | [], ρ, _, i => .inr ⟨rfl, ρ, rfl, i⟩
  | x :: l, ρ, h, i => by
    obtain ⟨ρ1, h1, h2, h3⟩ := h x ρ (List.mem_cons_self ..) i
    rw [List.map_cons, fGo]
    simp only [h1]
    cases hp : p x with
    | true =>
      refine .inl ⟨x, ?_, ?_⟩
      · rw [List.find?_cons, hp]
      · simp only [h2 hp]
    | false =>
      obtain ⟨ρ2, e, i2⟩ := h3 hp
      simp only [e]
      rcases fGo_find it P p f l ρ2 (fun y ρ hy => h y ρ (List.mem_cons_of_mem _ hy)) i2 with ⟨y, k1, k2⟩ | ⟨k1, k2⟩
      · refine .inl ⟨y, ?_, k2⟩
        rw [List.find?_cons, hp]
        exact k1
      · refine .inr ⟨?_, k2⟩
        rw [List.find?_cons, hp]
        exact k1
/-- while, by a measure -/
theorem wGo_all {c : ES} {body : SS} (I : Nat → List Sl → Prop)
    (h : ∀ m ρ dr, I m ρ → ∃ k, sT c ρ dr = .ok k dr ∧ (k = true → ∃ ρ2 dr2 m2, body ρ dr = .ok (.nx ρ2) dr2 ∧ m2 < m ∧ I m2 ρ2)) :
    ∀ (n m : Nat) (ρ : List Sl) (dr : Dr), m < n → I m ρ → ∃ ρ' dr' m', wGo c body n ρ dr = .ok (.nx ρ') dr' ∧ I m' ρ' ∧ sT c ρ' dr' = .ok false dr'
  | 0, _, _, _, hn, _ => absurd hn (Nat.not_lt_zero _)
  | n + 1, m, ρ, dr, hn, i => by
    obtain ⟨k, h1, h2⟩ := h m ρ dr i
    unfold wGo
    rw [h1]
    simp only [bind_ok]
    cases k with
    | false => exact ⟨ρ, dr, m, by simp, i, h1⟩
    | true =>
      obtain ⟨ρ2, dr2, m2, e, l, i2⟩ := h2 rfl
      obtain ⟨ρ', dr', m', e', i', t⟩ := wGo_all I h n m2 ρ2 dr2 (by omega) i2
      refine ⟨ρ', dr', m', ?_, i', t⟩
      simp only [if_true, e, e']
theorem sRet_ok {e : ES} {ρ : List Sl} {dr dr' : Dr} {d : D} (h : e ρ dr = .ok d dr') : sRet e ρ dr = .ok (.rt d) dr' := by simp [sRet, h]
theorem comp_map {α : Type} {it : LS} {b : GS} {e : ES} {vs : List Nat} {ρ : List Sl} {dr dr0 : Dr} (as : List α) (item f : α → D) (hi : it ρ dr0 = .ok (as.map item) dr) (hs : as.length ≤ sizeLine)
    (h : ∀ x ∈ as, ∃ ρ1, b (item x) (wipeS ρ vs) = some ρ1 ∧ e ρ1 dr = .ok (f x) dr) : sComp it b cYes e vs ρ dr0 = .ok (as.map f) dr := by
  have hs' : (as.map item).length ≤ sizeLine := by rw [List.length_map]; exact hs
  simp only [sComp, hi, bind_ok, if_pos hs']
  rw [cGo_map item f as [] h]
  rfl
theorem comp_fil {α : Type} {it : LS} {b : GS} {c : BS} {e : ES} {vs : List Nat} {ρ : List Sl} {dr dr0 : Dr} (as : List α) (item : α → D) (p : α → Bool) (f : α → D) (hi : it ρ dr0 = .ok (as.map item) dr) (hs : as.length ≤ sizeLine)
    (h : ∀ x ∈ as, ∃ ρ1, b (item x) (wipeS ρ vs) = some ρ1 ∧ c ρ1 dr = .ok (p x) dr ∧ (p x = true → e ρ1 dr = .ok (f x) dr)) : sComp it b c e vs ρ dr0 = .ok ((as.filter p).map f) dr := by
  have hs' : (as.map item).length ≤ sizeLine := by rw [List.length_map]; exact hs
  simp only [sComp, hi, bind_ok, if_pos hs']
  rw [cGo_fil item p f as [] h]
  rfl
theorem comp_draw {it : LS} {b : GS} {e : ES} {vs : List Nat} {ρ : List Sl} {dr dr0 : Dr} (Q : D → Prop) (items : List D) (hi : it ρ dr0 = .ok items dr) (hs : items.length ≤ sizeLine)
    (h : ∀ x ∈ items, ∃ ρ1, b x (wipeS ρ vs) = some ρ1 ∧ ∀ dr, ∃ d dr', e ρ1 dr = .ok d dr' ∧ Q d) : ∃ m dr', sComp it b cYes e vs ρ dr0 = .ok m dr' ∧ m.length = items.length ∧ ∀ d ∈ m, Q d := by
  obtain ⟨m, dr', e1, hl, hm, _⟩ := cGo_draw (fun _ d => Q d) items [] dr h
  refine ⟨m, dr', ?_, hl, fun d hd => ?_⟩
  · simp only [sComp, hi, bind_ok, if_pos hs]
    rw [e1]
    rfl
  · obtain ⟨_, _, k⟩ := hm d hd
    exact k
theorem range1_ok {a : ES} {ρ : List Sl} {dr dr1 : Dr} {j : Int} (ha : a ρ dr = .ok (.int j) dr1) (h1 : -1000000 ≤ j) (h2 : j ≤ 1000000) : sRange1 a ρ dr = .ok (rangeL 0 j.toNat) dr1 := by
  have h : -(2 ^ 62) ≤ j ∧ j < 2 ^ 62 := by omega
  simp only [sRange1, ha, bind_ok]
  rw [if_pos h]
theorem six_some {n d : Nat} {i : Int} (h0 : 0 ≤ i) (h : i ≤ n) : HT.sIx n d (some i) = i.toNat := by
  unfold HT.sIx
  simp
  split <;> omega
theorem cut_from {l : List D} {i : Int} (h0 : 0 ≤ i) (h : i ≤ l.length) : cutD l (some i) none = l.drop i.toNat := by
  unfold cutD
  rw [six_some h0 h]
  show (l.drop i.toNat).take (l.length - i.toNat) = _
  rw [List.take_of_length_le (by simp)]
theorem cut_to {l : List D} {i : Int} (h0 : 0 ≤ i) (h : i ≤ l.length) : cutD l none (some i) = l.take i.toNat := by
  unfold cutD
  rw [six_some h0 h]
  show (l.drop 0).take (i.toNat - 0) = _
  simp
theorem rangeL_map : ∀ (n : Nat) (lo : Int), rangeL lo n = (List.range n).map fun (i : Nat) => D.int (lo + (i : Int))
  | 0, lo => rfl
  | n + 1, lo => by
    rw [rangeL, rangeL_map n (lo + 1), List.range_succ_eq_map, List.map_cons, List.map_map]
    congr 1
    · simp
    · apply List.map_congr_left
      intro i _
      show D.int _ = D.int _
      congr 1
      show lo + 1 + (i : Int) = lo + ((i + 1 : Nat) : Int)
      omega
theorem rangeL_0 (n : Nat) : rangeL 0 n = (List.range n).map fun (i : Nat) => D.int (i : Int) := by
  rw [rangeL_map]
  apply List.map_congr_left
  intro i _
  simp
theorem dIx_lst {l : List D} {i : Nat} (h : i < l.length) : dIx (.lst l) (.int i) = some l[i] := by
  show atI l i = _
  unfold atI ixN
  rw [if_pos (by omega), if_pos (by omega)]
  simp [h]
theorem dIx_tup {l : List D} {i : Nat} (h : i < l.length) : dIx (.tup l) (.int i) = some l[i] := dIx_lst h
theorem sBin_ok {h : D → D → Option D} {a b : ES} {ρ : List Sl} {dr dr1 dr2 : Dr} {x y z : D} (ha : a ρ dr = .ok x dr1) (hb : b ρ dr1 = .ok y dr2) (hz : h x y = some z) : sBin h a b ρ dr = .ok z dr2 := by
  simp [sBin, ha, hb, hz]
theorem sL_ok {a : LS} {ρ : List Sl} {dr dr1 : Dr} {l : List D} (h : a ρ dr = .ok l dr1) : sL a ρ dr = .ok (.lst l) dr1 := by simp [sL, h]
theorem sCall1 {h : List D → Option D} {a : ES} {ρ : List Sl} {dr dr1 : Dr} {x z : D} (ha : a ρ dr = .ok x dr1) (hz : h [x] = some z) : sCall h (sCons a sNil) ρ dr = .ok z dr1 := by
  simp [sCall, sCons, sNil, ha, hz]
theorem sCall2 {h : List D → Option D} {a b : ES} {ρ : List Sl} {dr dr1 dr2 : Dr} {x y z : D} (ha : a ρ dr = .ok x dr1) (hb : b ρ dr1 = .ok y dr2) (hz : h [x, y] = some z) : sCall h (sCons a (sCons b sNil)) ρ dr = .ok z dr2 := by
  simp [sCall, sCons, sNil, ha, hb, hz]
theorem sVar_ok {i : Nat} {ρ : List Sl} {dr : Dr} {d : D} (h : ρ[i]? = some (.val d)) : sVar i ρ dr = .ok d dr := by simp [sVar, h]
theorem sItems_ok {e : ES} {ρ : List Sl} {dr dr1 : Dr} {x : D} {l : List D} (h : e ρ dr = .ok x dr1) (hl : asSeq x = some l) : sItems e ρ dr = .ok l dr1 := by simp [sItems, h, hl]
theorem setV_ok {i : Nat} {e : ES} {ρ : List Sl} {dr dr1 : Dr} {x : D} (h : e ρ dr = .ok x dr1) : sSet i (zV e) ρ dr = .ok (.nx (ρ.set i (.val x))) dr1 := by simp [sSet, zV, h]
/-! calls, the function unknown (so that nobody looks into it) -/
theorem call0 {F : FS} {ρ : List Sl} {dr : Dr} : sCallF F sNil ρ dr = F [] dr := rfl
theorem call1 {F : FS} {a : ES} {ρ : List Sl} {dr dr1 : Dr} {x : D} (ha : a ρ dr = .ok x dr1) : sCallF F (sCons a sNil) ρ dr = F [x] dr1 := by
  simp [sCallF, sCons, sNil, ha]
theorem call2 {F : FS} {a b : ES} {ρ : List Sl} {dr dr1 dr2 : Dr} {x y : D} (ha : a ρ dr = .ok x dr1) (hb : b ρ dr1 = .ok y dr2) : sCallF F (sCons a (sCons b sNil)) ρ dr = F [x, y] dr2 := by
  simp [sCallF, sCons, sNil, ha, hb]
theorem call3 {F : FS} {a b c : ES} {ρ : List Sl} {dr dr1 dr2 dr3 : Dr} {x y z : D} (ha : a ρ dr = .ok x dr1) (hb : b ρ dr1 = .ok y dr2) (hc : c ρ dr2 = .ok z dr3) : sCallF F (sCons a (sCons b (sCons c sNil))) ρ dr = F [x, y, z] dr3 := by
  simp [sCallF, sCons, sNil, ha, hb, hc]
theorem call4 {F : FS} {a b c d : ES} {ρ : List Sl} {dr dr1 dr2 dr3 dr4 : Dr} {x y z u : D} (ha : a ρ dr = .ok x dr1) (hb : b ρ dr1 = .ok y dr2) (hc : c ρ dr2 = .ok z dr3) (hd : d ρ dr3 = .ok u dr4) : sCallF F (sCons a (sCons b (sCons c (sCons d sNil)))) ρ dr = F [x, y, z, u] dr4 := by
  simp [sCallF, sCons, sNil, ha, hb, hc, hd]
theorem bCallF {F : FS} {l : List D} {dr dr' : Dr} {z : D} {a : LS} {ρ : List Sl} {dr0 : Dr} (ha : a ρ dr0 = .ok l dr) (h : F l dr = .ok z dr') : sCallF F a ρ dr0 = .ok z dr' := by
  simp [sCallF, ha, h]
end TP

set_option Elab.async false
set_option linter.all false
set_option maxRecDepth 100000
set_option maxHeartbeats 4000000
namespace TP
open PySem L2
/-- (a loop's fuel) -/
def fuel : List Sl → Dr → Nat := fun _ _ => 1000000
abbrev topS (i : Nat) : Stmt := PySem.Challenge.pw_throwplanes_k31_whole_changes_of_rows.main.body.getD i (.Pass ⟨0, 0, 0, 0⟩)
/-- which class of errors is below which: 0 PlaneError, 1 BadRow -/
def errR : Nat → Nat → Bool := fun a b => [(0, 0), (1, 0), (1, 1)].contains (a, b)
def isPl : Nat → Bool := fun a => decide (a < 2)
abbrev t18 : Stmt := topS 18
abbrev t22 : Stmt := topS 22
abbrev t30 : Stmt := topS 30
structure Fx (P : Program) (w : World) (K : PySem.W.Frag) (mg : Str → Option Value) (base : Heap) (ce : Ce) (co ct : Nat → Addr) : Prop where
  m_abs : mg "abs" = none
  m_all : mg "all" = none
  m_bool : mg "bool" = none
  m_dict : mg "dict" = none
  m_enumerate : mg "enumerate" = none
  m_int : mg "int" = none
  m_isinstance : mg "isinstance" = none
  m_len : mg "len" = none
  m_list : mg "list" = none
  m_max : mg "max" = none
  m_min : mg "min" = none
  m_range : mg "range" = none
  m_sum : mg "sum" = none
  m_tuple : mg "tuple" = none
  m_zip : mg "zip" = none
  m_gcd : mg "gcd" = some (.builtin "math.gcd")
  g0 : mg "PlaneError" = some (.ref (ce.cls 0))
  e0 : ErC K (ce.cls 0)
  isC0 : IsC K ce (isE errR 2 0) (.ref (ce.cls 0))
  g1 : mg "BadRow" = some (.ref (ce.cls 1))
  e1 : ErC K (ce.cls 1)
  isC1 : IsC K ce (isE errR 2 1) (.ref (ce.cls 1))
  c_MOST_WIDTH : ∃ t, mg "MOST_WIDTH" = some (.int 8 t)
  t5 : Txe K mg "is_number" "is_number" (topS 5)
  t6 : Txe K mg "is_ratio" "is_ratio" (topS 6)
  t7 : Txe K mg "is_free" "is_free" (topS 7)
  t8 : Txe K mg "as_ratio" "as_ratio" (topS 8)
  t9 : Txe K mg "sign_of" "sign_of" (topS 9)
  t12 : Txe K mg "need_any_row" "need_any_row" (topS 12)
  t13 : Txe K mg "changes_in" "changes_in" (topS 13)
  t14 : Txe K mg "filled_in" "filled_in" (topS 14)
  t15 : Txe K mg "changes" "changes" (topS 15)
  t16 : Txe K mg "filled_changes" "filled_changes" (topS 16)
  t18 : Txe K mg "_law_begun" "_law_begun" (topS 18)
  t19 : Txe K mg "_law_mixed" "_law_mixed" (topS 19)
  t20 : Txe K mg "_law_take" "_law_take" (topS 20)
  t21 : Txe K mg "_law_pick" "_law_pick" (topS 21)
  t22 : Txe K mg "_law_caught" "_law_caught" (topS 22)
  t23 : Txe K mg "_law_kinds" "_law_kinds" (topS 23)
  t24 : Txe K mg "_law_says" "_law_says" (topS 24)
  t25 : Txe K mg "_law_ratio" "_law_ratio" (topS 25)
  t26 : Txe K mg "_law_signed" "_law_signed" (topS 26)
  t27 : Txe K mg "_law_changes" "_law_changes" (topS 27)
  t28 : Txe K mg "_law_filled" "_law_filled" (topS 28)
  t29 : Tx K mg "_law_right" "_law_right" (topS 29) (.ref (co 29))
  tb29 : LamX.TabB base mg (co 29) (ct 29)
  tm29 : (ct 29, ("_law_right" ++ ".<locals>." : Str) ++ "<lambda>") ∈ ce.T
  tu29 : ∀ p ∈ ce.T, p.1 = ct 29 → p.2 = ("_law_right" ++ ".<locals>." : Str) ++ "<lambda>"
  t30 : Txe K mg "law" "law" (topS 30)
  cau : ∃ cd, Cau K mg ce isPl "_law_caught" (topS 22) cd
section
variable {P : Program} {w : World} {K : PySem.W.Frag} {mg : Str → Option Value} {base : Heap} {ce : Ce} {co ct : Nat → Addr}
/-! ### is_number -/
abbrev t5 : Stmt := topS 5
abbrev n5 : List Str := ["thing"]
theorem s5 : FnScope n5 ["thing"] (defScope t5) := ⟨rfl, rfl, rfl, by decide +kernel, rfl, by decide +kernel, by decide +kernel⟩
noncomputable def b_is_number : SS :=
  (sRet (sAnd (sIs (isB .int) (sVar 0)) (sNot (sIs (isB .bool) (sVar 0)))))
theorem x_is_number : ∃ f : FS, f = fD 1 b_is_number := ⟨_, rfl⟩
noncomputable def f_is_number : FS := Classical.choose x_is_number
theorem e_is_number : f_is_number = fD 1 b_is_number := Classical.choose_spec x_is_number
theorem d_is_number (F : Fx P w K mg base ce co ct) : Df P w K mg base ce "is_number" "is_number" t5 ["thing"] 1 f_is_number :=
  e_is_number ▸ F.t5.df s5 (fun _ _ _ _ _ _ us hl => match us, hl with | [_], _ => rfl) fun f cd A outer s H E c tk =>
   (yss_one (ys_ret (ye_and (ye_is F.m_isinstance (isC_ty .int) (.ty _) (yb_of (ye_var 0 (pv 0))) (pe_tyN F.m_int)) (ye_one (ye_not (ye_is F.m_isinstance (isC_ty .bool) (.ty _) (yb_of (ye_var 0 (pv 0))) (pe_tyN F.m_bool)))))))
/-! ### is_ratio -/
abbrev t6 : Stmt := topS 6
abbrev n6 : List Str := ["thing", "part"]
theorem s6 : FnScope n6 ["thing"] (defScope t6) := ⟨rfl, rfl, rfl, by decide +kernel, rfl, by decide +kernel, by decide +kernel⟩
noncomputable def b_is_ratio : SS :=
  (sSeq (sIfS (sOr (sNot (sIs (isB .tuple) (sVar 0))) (sOr (sBin dNe (sCall dLen (sCons (sVar 0) sNil)) (sC (.int 2))) (sNot (sCall dAll (sCons (sL (sComp (sItems (sVar 0)) (gN 1) cYes (sCallF f_is_number (sCons (sVar 1) sNil)) [1])) sNil))))) (sRet (sC (.bl false))) sNext) (sRet (sAnd (sBin dGt (sBin dIx (sVar 0) (sC (.int 1))) (sC (.int 0))) (sBin dEq (sCall dGcd (sCons (sBin dIx (sVar 0) (sC (.int 0))) (sCons (sBin dIx (sVar 0) (sC (.int 1))) sNil))) (sC (.int 1))))))
theorem x_is_ratio : ∃ f : FS, f = fD 2 b_is_ratio := ⟨_, rfl⟩
noncomputable def f_is_ratio : FS := Classical.choose x_is_ratio
theorem e_is_ratio : f_is_ratio = fD 2 b_is_ratio := Classical.choose_spec x_is_ratio
theorem d_is_ratio (F : Fx P w K mg base ce co ct) : Df P w K mg base ce "is_ratio" "is_ratio" t6 ["thing"] 2 f_is_ratio :=
  e_is_ratio ▸ F.t6.df s6 (fun _ _ _ _ _ _ us hl => match us, hl with | [_], _ => rfl) fun f cd A outer s H E c tk =>
   (yss_cons (ys_if ((yw_or (yt_not (yt_val (ye_is F.m_isinstance (isC_ty .tuple) (.ty _) (yb_of (ye_var 0 (pv 0))) (pe_tyN F.m_tuple)))) (yw_or (yt_cmp (bs_ne c.pc) (yb_of (ye_callB cs_len F.m_len (yab_cons (yb_of (ye_var 0 (pv 0))) yab_nil))) (yb_of ye_int)) (yw_or1 (yt_not (yt_val (ye_callB (cs_all c.pc) F.m_all (yab_cons (yb_of (ye_of_f (pe_comp (t := (gName 1)) (own := [("part", 1)]) rfl c.pc.nd (yi_seq (yc_e (ye_var 0 (pv 0)))) (blkOk_by (by first | decide +kernel | rfl)) gsm_name (by decide)
      (fun _ _ _ _ _ => (pg_name (i := 1) c.blk.pc.nd rfl (by first | exact .inl rfl | exact .inr rfl))) (fun _ _ _ _ _ => yts_nil) (fun _ _ _ _ _ => (ye_call (d_is_number F) c.blk (by decide) (ya_cons (ye_var 1 (pv 1)) ya_nil) (len_cons len_nil)))))) yab_nil)))))))).pt
    (yss_one (ys_ret ye_bl)) yss_nil)
    (yss_one (ys_ret (ye_and (ye_cmp bs_gt (yb_of (ye_ix (yb_of (ye_var 0 (pv 0))) (yb_of ye_int))) (yb_of ye_int)) (ye_one (ye_cmp (bs_eq c.pc) (yb_of (ye_callM cs_gcd F.m_gcd (yab_cons (yb_of (ye_ix (yb_of (ye_var 0 (pv 0))) (yb_of ye_int))) (yab_cons (yb_of (ye_ix (yb_of (ye_var 0 (pv 0))) (yb_of ye_int))) yab_nil)))) (yb_of ye_int)))))))
/-! ### is_free -/
abbrev t7 : Stmt := topS 7
abbrev n7 : List Str := ["thing"]
theorem s7 : FnScope n7 ["thing"] (defScope t7) := ⟨rfl, rfl, rfl, by decide +kernel, rfl, by decide +kernel, by decide +kernel⟩
noncomputable def b_is_free : SS :=
  (sRet (sOr (sCallF f_is_number (sCons (sVar 0) sNil)) (sCallF f_is_ratio (sCons (sVar 0) sNil))))
theorem x_is_free : ∃ f : FS, f = fD 1 b_is_free := ⟨_, rfl⟩
noncomputable def f_is_free : FS := Classical.choose x_is_free
theorem e_is_free : f_is_free = fD 1 b_is_free := Classical.choose_spec x_is_free
theorem d_is_free (F : Fx P w K mg base ce co ct) : Df P w K mg base ce "is_free" "is_free" t7 ["thing"] 3 f_is_free :=
  e_is_free ▸ F.t7.df s7 (fun _ _ _ _ _ _ us hl => match us, hl with | [_], _ => rfl) fun f cd A outer s H E c tk =>
   (yss_one (ys_ret (ye_or (ye_call (d_is_number F) c (by decide) (ya_cons (ye_var 0 (pv 0)) ya_nil) (len_cons len_nil)) (ye_one (ye_call (d_is_ratio F) c (by decide) (ya_cons (ye_var 0 (pv 0)) ya_nil) (len_cons len_nil))))))
/-! ### as_ratio -/
abbrev t8 : Stmt := topS 8
abbrev n8 : List Str := ["number"]
theorem s8 : FnScope n8 ["number"] (defScope t8) := ⟨rfl, rfl, rfl, by decide +kernel, rfl, by decide +kernel, by decide +kernel⟩
noncomputable def b_as_ratio : SS :=
  (sRet (sIf (sIs (isB .tuple) (sVar 0)) (sVar 0) (sTup (sCons (sVar 0) (sCons (sC (.int 1)) sNil)))))
theorem x_as_ratio : ∃ f : FS, f = fD 1 b_as_ratio := ⟨_, rfl⟩
noncomputable def f_as_ratio : FS := Classical.choose x_as_ratio
theorem e_as_ratio : f_as_ratio = fD 1 b_as_ratio := Classical.choose_spec x_as_ratio
theorem d_as_ratio (F : Fx P w K mg base ce co ct) : Df P w K mg base ce "as_ratio" "as_ratio" t8 ["number"] 1 f_as_ratio :=
  e_as_ratio ▸ F.t8.df s8 (fun _ _ _ _ _ _ us hl => match us, hl with | [_], _ => rfl) fun f cd A outer s H E c tk =>
   (yss_one (ys_ret (ye_if (yt_val (ye_is F.m_isinstance (isC_ty .tuple) (.ty _) (yb_of (ye_var 0 (pv 0))) (pe_tyN F.m_tuple))) (ye_var 0 (pv 0)) (ye_tup (ya_cons (ye_var 0 (pv 0)) (ya_cons ye_int ya_nil))))))
/-! ### sign_of -/
abbrev t9 : Stmt := topS 9
abbrev n9 : List Str := ["one"]
theorem s9 : FnScope n9 ["one"] (defScope t9) := ⟨rfl, rfl, rfl, by decide +kernel, rfl, by decide +kernel, by decide +kernel⟩
noncomputable def b_sign_of : SS :=
  (sRet (sBin dSub (sBin dGt (sBin dIx (sVar 0) (sC (.int 0))) (sC (.int 0))) (sBin dLt (sBin dIx (sVar 0) (sC (.int 0))) (sC (.int 0)))))
theorem x_sign_of : ∃ f : FS, f = fD 1 b_sign_of := ⟨_, rfl⟩
noncomputable def f_sign_of : FS := Classical.choose x_sign_of
theorem e_sign_of : f_sign_of = fD 1 b_sign_of := Classical.choose_spec x_sign_of
theorem d_sign_of (F : Fx P w K mg base ce co ct) : Df P w K mg base ce "sign_of" "sign_of" t9 ["one"] 1 f_sign_of :=
  e_sign_of ▸ F.t9.df s9 (fun _ _ _ _ _ _ us hl => match us, hl with | [_], _ => rfl) fun f cd A outer s H E c tk =>
   (yss_one (ys_ret (ye_bin bs_sub (yb_of (ye_cmp bs_gt (yb_of (ye_ix (yb_of (ye_var 0 (pv 0))) (yb_of ye_int))) (yb_of ye_int))) (yb_of (ye_cmp bs_lt (yb_of (ye_ix (yb_of (ye_var 0 (pv 0))) (yb_of ye_int))) (yb_of ye_int))))))
/-! ### need_any_row -/
abbrev t12 : Stmt := topS 12
abbrev n12 : List Str := ["row", "item"]
theorem s12 : FnScope n12 ["row"] (defScope t12) := ⟨rfl, rfl, rfl, by decide +kernel, rfl, by decide +kernel, by decide +kernel⟩
noncomputable def b_need_any_row : SS :=
  (sSeq (sIfS (sOr (sNot (sIs (isAny [isB .list, isB .tuple]) (sVar 0))) (sNot (sChain dLe dLe (sC (.int 1)) (sCall dLen (sCons (sVar 0) sNil)) (sC (.int 8))))) (sRaise ⟨1, [], []⟩) sNext) (sIfS (sNot (sCall dAll (sCons (sL (sComp (sItems (sVar 0)) (gN 1) cYes (sCallF f_is_free (sCons (sVar 1) sNil)) [1])) sNil))) (sRaise ⟨1, [], []⟩) sNext))
theorem x_need_any_row : ∃ f : FS, f = fD 2 b_need_any_row := ⟨_, rfl⟩
noncomputable def f_need_any_row : FS := Classical.choose x_need_any_row
theorem e_need_any_row : f_need_any_row = fD 2 b_need_any_row := Classical.choose_spec x_need_any_row
theorem d_need_any_row (F : Fx P w K mg base ce co ct) : Df P w K mg base ce "need_any_row" "need_any_row" t12 ["row"] 4 f_need_any_row :=
  e_need_any_row ▸ F.t12.df s12 (fun _ _ _ _ _ _ us hl => match us, hl with | [_], _ => rfl) fun f cd A outer s H E c tk =>
   (yss_cons (ys_if ((yw_or (yt_not (yt_val (ye_is2 (T1 := .list) (T2 := .tuple) F.m_isinstance (yb_of (ye_var 0 (pv 0))) (pe_tyN F.m_list) (pe_tyN F.m_tuple)))) (yw_or1 (yt_not (yt_chain bs_le bs_le (yb_of ye_int) (yb_of (ye_callB cs_len F.m_len (yab_cons (yb_of (ye_var 0 (pv 0))) yab_nil))) (yb_of (ye_globI F.c_MOST_WIDTH))))))).pt
    (yss_one (ys_raise (c := 1) rfl tk PySem.F.excBase_ValueError F.e1.xc F.g1 F.e1.kp (raises_own F.e1.ex.hs F.e1.ty))) yss_nil)
    (yss_one (ys_if (yt_not (yt_val (ye_callB (cs_all c.pc) F.m_all (yab_cons (yb_of (ye_of_f (pe_comp (t := (gName 1)) (own := [("item", 1)]) rfl c.pc.nd (yi_seq (yc_e (ye_var 0 (pv 0)))) (blkOk_by (by first | decide +kernel | rfl)) gsm_name (by decide)
      (fun _ _ _ _ _ => (pg_name (i := 1) c.blk.pc.nd rfl (by first | exact .inl rfl | exact .inr rfl))) (fun _ _ _ _ _ => yts_nil) (fun _ _ _ _ _ => (ye_call (d_is_free F) c.blk (by decide) (ya_cons (ye_var 1 (pv 1)) ya_nil) (len_cons len_nil)))))) yab_nil))))
    (yss_one (ys_raise (c := 1) rfl tk PySem.F.excBase_ValueError F.e1.xc F.g1 F.e1.kp (raises_own F.e1.ex.hs F.e1.ty))) yss_nil)))
/-! ### changes_in -/
abbrev t13 : Stmt := topS 13
abbrev n13 : List Str := ["row", "signs", "item", "one", "other"]
theorem s13 : FnScope n13 ["row"] (defScope t13) := ⟨rfl, rfl, rfl, by decide +kernel, rfl, by decide +kernel, by decide +kernel⟩
noncomputable def b_changes_in : SS :=
  (sSeq (sSet 1 (zV (sL (sComp (sItems (sVar 0)) (gN 2) (sT (sBin dNe (sCallF f_sign_of (sCons (sVar 2) sNil)) (sC (.int 0)))) (sCallF f_sign_of (sCons (sVar 2) sNil)) [2])))) (sRet (sBin dSub (sCall dLen (sCons (sL (sComp (sZip (sVar 1) (sCut (sVar 1) (sP (sC (.int 1))) sNoP)) (gTp (gCn (gN 3) (gCn (gN 4) gNl))) (sT (sBin dNe (sVar 3) (sVar 4))) (sVar 3) [3, 4])) sNil)) (sCall dInt (sCons (sBin dEq (sVar 1) (sL (sLst sNil))) sNil)))))
theorem x_changes_in : ∃ f : FS, f = fD 5 b_changes_in := ⟨_, rfl⟩
noncomputable def f_changes_in : FS := Classical.choose x_changes_in
theorem e_changes_in : f_changes_in = fD 5 b_changes_in := Classical.choose_spec x_changes_in
theorem d_changes_in (F : Fx P w K mg base ce co ct) : Df P w K mg base ce "changes_in" "changes_in" t13 ["row"] 2 f_changes_in :=
  e_changes_in ▸ F.t13.df s13 (fun _ _ _ _ _ _ us hl => match us, hl with | [_], _ => rfl) fun f cd A outer s H E c tk =>
   (yss_cons (ys_lcv (ys_setLc (i := 1) (t := (gName 2)) (own := [("item", 2)]) rfl c.pc.nd rfl rfl (sw_true rfl rfl rfl (by decide +kernel)) (yi_seq (yc_e (ye_var 0 (pv 0)))) (blkOk_by (by first | decide +kernel | rfl)) gsm_name (by decide)
      (fun _ _ _ _ _ => (pg_name (i := 2) c.blk.pc.nd rfl (by first | exact .inl rfl | exact .inr rfl))) (fun _ _ _ _ _ => (yts_one (yt_cmp (bs_ne c.blk.pc) (yb_of (ye_call (d_sign_of F) c.blk (by decide) (ya_cons (ye_var 2 (pv 2)) ya_nil) (len_cons len_nil))) (yb_of ye_int)))) (fun _ _ _ _ _ => (ye_call (d_sign_of F) c.blk (by decide) (ya_cons (ye_var 2 (pv 2)) ya_nil) (len_cons len_nil)))))
    (yss_one (ys_ret (ye_bin bs_sub (yb_of (ye_callB cs_len F.m_len (yab_cons (yb_of (ye_of_f (pe_comp (t := (gTup _ 2 (gCons (gName 3) (gCons (gName 4) gNil)))) (own := [("one", 3), ("other", 4)]) rfl c.pc.nd (yi_zip F.m_zip (yc_e (ye_var 1 (pv 1))) (yc_e (ye_cut (yb_of (ye_var 1 (pv 1))) (yp_some ye_int) yp_none))) (blkOk_by (by first | decide +kernel | rfl)) (gsm_tup (gsms_cons gsm_name (gsms_cons gsm_name gsms_nil))) (by decide)
      (fun _ _ _ _ _ => (pg_tup rfl (pgs_cons (pg_name (i := 3) c.blk.pc.nd rfl (by first | exact .inl rfl | exact .inr rfl)) (pgs_cons (pg_name (i := 4) c.blk.pc.nd rfl (by first | exact .inl rfl | exact .inr rfl)) pgs_nil)))) (fun _ _ _ _ _ => (yts_one (yt_cmp (bs_ne c.blk.pc) (yb_of (ye_var 3 (pv 3))) (yb_of (ye_var 4 (pv 4)))))) (fun _ _ _ _ _ => (ye_var 3 (pv 3)))))) yab_nil))) (yb_of (ye_callTy cs_int F.m_int (yab_cons (yb_of (ye_cmp (bs_eq c.pc) (yb_of (ye_var 1 (pv 1))) (yb_of (ye_of_f (yf_lst ya_nil))))) yab_nil)))))))
/-! ### filled_in -/
abbrev t14 : Stmt := topS 14
abbrev n14 : List Str := ["row", "most", "spot", "item", "kept", "more", "sign", "own"]
theorem s14 : FnScope n14 ["row"] (defScope t14) := ⟨rfl, rfl, rfl, by decide +kernel, rfl, by decide +kernel, by decide +kernel⟩
noncomputable def b_filled_in : SS :=
  (sSeq (sSet 1 (zV (sDict [((sC (.int 1)), (sC (.int 0))), ((sUn dNeg (sC (.int 1))), (sC (.int 0)))]))) (sSeq (sFor (sEnum (sVar 0)) (gTp (gCn (gN 2) (gCn (gN 3) gNl))) (sSeq (sSet 4 (zV (sIf (sBin dEq (sCallF f_sign_of (sCons (sVar 3) sNil)) (sC (.int 0))) (sTup (sCons (sC (.int 1)) (sCons (sUn dNeg (sC (.int 1))) sNil))) (sTup (sCons (sCallF f_sign_of (sCons (sVar 3) sNil)) sNil))))) (sSeq (sSet 5 (zV (sIf (sBin dGt (sVar 2) (sC (.int 0))) (sC (.int 1)) (sC (.int 0))))) (sSet 1 (zV (sDcomp (sItems (sVar 4)) (gN 6) cYes (sVar 6) (sCall dMax (sCons (sL (sComp (sKeys (sVar 1)) (gN 7) cYes (sBin dAdd (sBin dGet (sVar 1) (sVar 7)) (sBin dMul (sVar 5) (sCall dInt (sCons (sBin dNe (sVar 7) (sVar 6)) sNil)))) [7])) sNil)) [6])))))) (sRet (sUn dMaxV (sVar 1)))))
theorem x_filled_in : ∃ f : FS, f = fD 8 b_filled_in := ⟨_, rfl⟩
noncomputable def f_filled_in : FS := Classical.choose x_filled_in
theorem e_filled_in : f_filled_in = fD 8 b_filled_in := Classical.choose_spec x_filled_in
theorem d_filled_in (F : Fx P w K mg base ce co ct) : Df P w K mg base ce "filled_in" "filled_in" t14 ["row"] 2 f_filled_in :=
  e_filled_in ▸ F.t14.df s14 (fun _ _ _ _ _ _ us hl => match us, hl with | [_], _ => rfl) fun f cd A outer s H E c tk =>
   (yss_cons (ys_set (i := 1) c.pc.nd rfl (by first | exact .inl rfl | exact .inr rfl) (yz_v (ye_dict (l := [((sC (.int 1)), (sC (.int 0))), ((sUn dNeg (sC (.int 1))), (sC (.int 0)))]) (pps_cons ye_int ye_int (pps_cons (ye_un us_neg (yb_of ye_int)) ye_int pps_nil)))))
    (yss_cons (ys_for (t := (gTup _ 2 (gCons (gName 2) (gCons (gName 3) gNil)))) c.po rfl (yi_enum F.m_enumerate (yc_e (ye_var 0 (pv 0)))) (pg_tup rfl (pgs_cons (pg_name (i := 2) c.pc.nd rfl (by first | exact .inl rfl | exact .inr rfl)) (pgs_cons (pg_name (i := 3) c.pc.nd rfl (by first | exact .inl rfl | exact .inr rfl)) pgs_nil))) (gsm_tup (gsms_cons gsm_name (gsms_cons gsm_name gsms_nil)))
    (yss_cons (ys_set (i := 4) c.pc.nd rfl (by first | exact .inl rfl | exact .inr rfl) (yz_v (ye_if (yt_cmp (bs_eq c.pc) (yb_of (ye_call (d_sign_of F) c (by decide) (ya_cons (ye_var 3 (pv 3)) ya_nil) (len_cons len_nil))) (yb_of ye_int)) (ye_tup (ya_cons ye_int (ya_cons (ye_un us_neg (yb_of ye_int)) ya_nil))) (ye_tup (ya_cons (ye_call (d_sign_of F) c (by decide) (ya_cons (ye_var 3 (pv 3)) ya_nil) (len_cons len_nil)) ya_nil)))))
    (yss_cons (ys_set (i := 5) c.pc.nd rfl (by first | exact .inl rfl | exact .inr rfl) (yz_v (ye_if (yt_cmp bs_gt (yb_of (ye_var 2 (pv 2))) (yb_of ye_int)) ye_int ye_int)))
    (yss_one (ys_set (i := 1) c.pc.nd rfl (by first | exact .inl rfl | exact .inr rfl) (yz_v (ye_dcomp (t := (gName 6)) (own := [("sign", 6)]) rfl c.pc.nd (yi_seq (yc_e (ye_var 4 (pv 4)))) (blkOk_by (by first | decide +kernel | rfl)) gsm_name (by decide)
      (fun _ _ _ _ _ => (pg_name (i := 6) c.blk.pc.nd rfl (by first | exact .inl rfl | exact .inr rfl))) (fun _ _ _ _ _ => yts_nil) (fun _ _ _ _ _ => (ye_var 6 (pv 6))) (fun _ _ _ _ _ => (ye_callB (cs_max c.blk.pc) F.m_max (yab_cons (yb_of (ye_of_f (pe_comp (t := (gName 7)) (own := [("own", 7)]) rfl c.blk.pc.nd (yi_keys (ye_var 1 (pv 1))) (blkOk_by (by first | decide +kernel | rfl)) gsm_name (by decide)
      (fun _ _ _ _ _ => (pg_name (i := 7) c.blk.blk.pc.nd rfl (by first | exact .inl rfl | exact .inr rfl))) (fun _ _ _ _ _ => yts_nil) (fun _ _ _ _ _ => (ye_bin bs_add (yb_of (ye_get c.blk.blk.pc (yb_of (ye_var 1 (pv 1))) (yb_of (ye_var 7 (pv 7))))) (yb_of (ye_bin bs_mul (yb_of (ye_var 5 (pv 5))) (yb_of (ye_callTy cs_int F.m_int (yab_cons (yb_of (ye_cmp (bs_ne c.blk.blk.pc) (yb_of (ye_var 7 (pv 7))) (yb_of (ye_var 6 (pv 6))))) yab_nil)))))))))) yab_nil))))))))))
    (yss_one (ys_ret (ye_maxVals c.pc.calm F.m_max (ye_var 1 (pv 1)))))))
/-! ### changes -/
abbrev t15 : Stmt := topS 15
abbrev n15 : List Str := ["row", "item"]
theorem s15 : FnScope n15 ["row"] (defScope t15) := ⟨rfl, rfl, rfl, by decide +kernel, rfl, by decide +kernel, by decide +kernel⟩
noncomputable def b_changes : SS :=
  (sSeq (sDrop (sCallF f_need_any_row (sCons (sVar 0) sNil))) (sRet (sCallF f_changes_in (sCons (sL (sComp (sItems (sVar 0)) (gN 1) cYes (sCallF f_as_ratio (sCons (sVar 1) sNil)) [1])) sNil))))
theorem x_changes : ∃ f : FS, f = fD 2 b_changes := ⟨_, rfl⟩
noncomputable def f_changes : FS := Classical.choose x_changes
theorem e_changes : f_changes = fD 2 b_changes := Classical.choose_spec x_changes
theorem d_changes (F : Fx P w K mg base ce co ct) : Df P w K mg base ce "changes" "changes" t15 ["row"] 5 f_changes :=
  e_changes ▸ F.t15.df s15 (fun _ _ _ _ _ _ us hl => match us, hl with | [_], _ => rfl) fun f cd A outer s H E c tk =>
   (yss_cons (ys_drop (ye_call (d_need_any_row F) c (by decide) (ya_cons (ye_var 0 (pv 0)) ya_nil) (len_cons len_nil)))
    (yss_one (ys_ret (ye_call (d_changes_in F) c (by decide) (ya_cons (ye_of_f (pe_comp (t := (gName 1)) (own := [("item", 1)]) rfl c.pc.nd (yi_seq (yc_e (ye_var 0 (pv 0)))) (blkOk_by (by first | decide +kernel | rfl)) gsm_name (by decide)
      (fun _ _ _ _ _ => (pg_name (i := 1) c.blk.pc.nd rfl (by first | exact .inl rfl | exact .inr rfl))) (fun _ _ _ _ _ => yts_nil) (fun _ _ _ _ _ => (ye_call (d_as_ratio F) c.blk (by decide) (ya_cons (ye_var 1 (pv 1)) ya_nil) (len_cons len_nil))))) ya_nil) (len_cons len_nil)))))
/-! ### filled_changes -/
abbrev t16 : Stmt := topS 16
abbrev n16 : List Str := ["row", "item"]
theorem s16 : FnScope n16 ["row"] (defScope t16) := ⟨rfl, rfl, rfl, by decide +kernel, rfl, by decide +kernel, by decide +kernel⟩
noncomputable def b_filled_changes : SS :=
  (sSeq (sDrop (sCallF f_need_any_row (sCons (sVar 0) sNil))) (sRet (sCallF f_filled_in (sCons (sL (sComp (sItems (sVar 0)) (gN 1) cYes (sCallF f_as_ratio (sCons (sVar 1) sNil)) [1])) sNil))))
theorem x_filled_changes : ∃ f : FS, f = fD 2 b_filled_changes := ⟨_, rfl⟩
noncomputable def f_filled_changes : FS := Classical.choose x_filled_changes
theorem e_filled_changes : f_filled_changes = fD 2 b_filled_changes := Classical.choose_spec x_filled_changes
theorem d_filled_changes (F : Fx P w K mg base ce co ct) : Df P w K mg base ce "filled_changes" "filled_changes" t16 ["row"] 5 f_filled_changes :=
  e_filled_changes ▸ F.t16.df s16 (fun _ _ _ _ _ _ us hl => match us, hl with | [_], _ => rfl) fun f cd A outer s H E c tk =>
   (yss_cons (ys_drop (ye_call (d_need_any_row F) c (by decide) (ya_cons (ye_var 0 (pv 0)) ya_nil) (len_cons len_nil)))
    (yss_one (ys_ret (ye_call (d_filled_in F) c (by decide) (ya_cons (ye_of_f (pe_comp (t := (gName 1)) (own := [("item", 1)]) rfl c.pc.nd (yi_seq (yc_e (ye_var 0 (pv 0)))) (blkOk_by (by first | decide +kernel | rfl)) gsm_name (by decide)
      (fun _ _ _ _ _ => (pg_name (i := 1) c.blk.pc.nd rfl (by first | exact .inl rfl | exact .inr rfl))) (fun _ _ _ _ _ => yts_nil) (fun _ _ _ _ _ => (ye_call (d_as_ratio F) c.blk (by decide) (ya_cons (ye_var 1 (pv 1)) ya_nil) (len_cons len_nil))))) ya_nil) (len_cons len_nil)))))
/-! ### _law_mixed -/
abbrev t19 : Stmt := topS 19
abbrev n19 : List Str := ["draw", "turn", "found", "great", "blend", "cell"]
theorem s19 : FnScope n19 ["draw"] (defScope t19) := ⟨rfl, rfl, rfl, by decide +kernel, rfl, by decide +kernel, by decide +kernel⟩
noncomputable def b_law_mixed : SS :=
  (sSeq (sDrSet 0 (fun dr x => { dr with turn := x }) (sBin dAdd (sDr 0 Dr.turn) (sC (.int 1)))) (sSeq (sPar [1, 2] (zCons (zV (sCall dInt (sCons (sDr 0 Dr.turn) sNil))) (zCons (zV (sC (.int 0))) zNil))) (sSeq (sFor (sItems (sL (sLst (sCons (sC (.int 2147483647)) (sCons (sC (.int 2147483629)) (sCons (sC (.int 2147483587)) sNil)))))) (gN 3) (sSeq (sSet 4 (zV (sBin dMod (sBin dAdd (sBin dMul (sVar 1) (sC (.int 48271))) (sBin dDiv (sVar 3) (sC (.int 11)))) (sVar 3)))) (sSeq (sFor (sDrCells 0) (gN 5) (sSet 4 (zV (sBin dMod (sBin dAdd (sBin dAdd (sBin dMul (sVar 4) (sC (.int 69621))) (sCall dInt (sCons (sVar 5) sNil))) (sVar 1)) (sVar 3))))) (sSet 2 (zV (sBin dAdd (sBin dMul (sVar 2) (sC (.int 2147483659))) (sBin dMod (sBin dPow (sVar 4) (sC (.int 5))) (sVar 3)))))))) (sRet (sVar 2)))))
theorem x_law_mixed : ∃ f : FS, f = fD 6 b_law_mixed := ⟨_, rfl⟩
noncomputable def f_law_mixed : FS := Classical.choose x_law_mixed
theorem e_law_mixed : f_law_mixed = fD 6 b_law_mixed := Classical.choose_spec x_law_mixed
theorem d_law_mixed (F : Fx P w K mg base ce co ct) : Df P w K mg base ce "_law_mixed" "_law_mixed" t19 ["draw"] 1 f_law_mixed :=
  e_law_mixed ▸ F.t19.df s19 (fun _ _ _ _ _ _ us hl => match us, hl with | [_], _ => rfl) fun f cd A outer s H E c tk =>
   (yss_cons (ys_drSet (f := fun dr x => { dr with turn := x }) c.pc (fun lo dr x => (dr_put lo dr x).2) (fun _ _ => ⟨rfl, rfl⟩) (pv 0) (ye_bin bs_add (yb_of (ye_dr c.pc (fun lo dr => (dr_val lo dr).2.2.2) (pv 0))) (yb_of ye_int)))
    (yss_cons (ys_par (i := 1) (j := 2) rfl c.pc.nd rfl rfl (by decide) rfl rfl (yz_v (ye_callTy cs_int F.m_int (yab_cons (yb_of (ye_dr c.pc (fun lo dr => (dr_val lo dr).2.2.2) (pv 0))) yab_nil))) (yz_v ye_int) rfl)
    (yss_cons (ys_for (t := (gName 3)) c.po rfl (yi_seq (yc_e (ye_of_f (yf_lst (ya_cons ye_int (ya_cons ye_int (ya_cons ye_int ya_nil))))))) (pg_name (i := 3) c.pc.nd rfl (by first | exact .inl rfl | exact .inr rfl)) gsm_name
    (yss_cons (ys_set (i := 4) c.pc.nd rfl (by first | exact .inl rfl | exact .inr rfl) (yz_v (ye_bin bs_mod (yb_of (ye_bin bs_add (yb_of (ye_bin bs_mul (yb_of (ye_var 1 (pv 1))) (yb_of ye_int))) (yb_of (ye_bin bs_div (yb_of (ye_var 3 (pv 3))) (yb_of ye_int))))) (yb_of (ye_var 3 (pv 3))))))
    (yss_cons (ys_for (t := (gName 5)) c.po rfl (yi_drCells c.pc (pv 0)) (pg_name (i := 5) c.pc.nd rfl (by first | exact .inl rfl | exact .inr rfl)) gsm_name
    (yss_one (ys_set (i := 4) c.pc.nd rfl (by first | exact .inl rfl | exact .inr rfl) (yz_v (ye_bin bs_mod (yb_of (ye_bin bs_add (yb_of (ye_bin bs_add (yb_of (ye_bin bs_mul (yb_of (ye_var 4 (pv 4))) (yb_of ye_int))) (yb_of (ye_callTy cs_int F.m_int (yab_cons (yb_of (ye_var 5 (pv 5))) yab_nil))))) (yb_of (ye_var 1 (pv 1))))) (yb_of (ye_var 3 (pv 3))))))))
    (yss_one (ys_set (i := 2) c.pc.nd rfl (by first | exact .inl rfl | exact .inr rfl) (yz_v (ye_bin bs_add (yb_of (ye_bin bs_mul (yb_of (ye_var 2 (pv 2))) (yb_of ye_int))) (yb_of (ye_bin bs_mod (yb_of (ye_bin bs_pow (yb_of (ye_var 4 (pv 4))) (yb_of ye_int))) (yb_of (ye_var 3 (pv 3))))))))))))
    (yss_one (ys_ret (ye_var 2 (pv 2)))))))
/-! ### _law_take -/
abbrev t20 : Stmt := topS 20
abbrev n20 : List Str := ["draw", "amount", "found"]
theorem s20 : FnScope n20 ["draw", "amount"] (defScope t20) := ⟨rfl, rfl, rfl, by decide +kernel, rfl, by decide +kernel, by decide +kernel⟩
noncomputable def b_law_take : SS :=
  (sSeq (sIfS (sBin dEq (sDr 0 Dr.rest) (sC (.int 0))) (sDrSet 0 (fun dr x => { dr with rest := x }) (sIf (sDrHas 0) (sDrPop 0) (sCallF f_law_mixed (sCons (sVar 0) sNil)))) sNext) (sSeq (sSet 2 (zV (sBin dMod (sCall dInt (sCons (sDr 0 Dr.rest) sNil)) (sVar 1)))) (sSeq (sDrSet 0 (fun dr x => { dr with rest := x }) (sBin dDiv (sCall dInt (sCons (sDr 0 Dr.rest) sNil)) (sVar 1))) (sRet (sVar 2)))))
theorem x_law_take : ∃ f : FS, f = fD 3 b_law_take := ⟨_, rfl⟩
noncomputable def f_law_take : FS := Classical.choose x_law_take
theorem e_law_take : f_law_take = fD 3 b_law_take := Classical.choose_spec x_law_take
theorem d_law_take (F : Fx P w K mg base ce co ct) : Df P w K mg base ce "_law_take" "_law_take" t20 ["draw", "amount"] 2 f_law_take :=
  e_law_take ▸ F.t20.df s20 (fun _ _ _ _ _ _ us hl => match us, hl with | [_, _], _ => rfl) fun f cd A outer s H E c tk =>
   (yss_cons (ys_if (yt_cmp (bs_eq c.pc) (yb_of (ye_dr c.pc (fun lo dr => (dr_val lo dr).2.1) (pv 0))) (yb_of ye_int))
    (yss_one (ys_drSet (f := fun dr x => { dr with rest := x }) c.pc (fun lo dr x => (dr_put lo dr x).1) (fun _ _ => ⟨rfl, rfl⟩) (pv 0) (ye_if (yt_drHas c.pc (pv 0)) (ye_drPop c.pc (pv 0)) (ye_call (d_law_mixed F) c (by decide) (ya_cons (ye_var 0 (pv 0)) ya_nil) (len_cons len_nil))))) yss_nil)
    (yss_cons (ys_set (i := 2) c.pc.nd rfl (by first | exact .inl rfl | exact .inr rfl) (yz_v (ye_bin bs_mod (yb_of (ye_callTy cs_int F.m_int (yab_cons (yb_of (ye_dr c.pc (fun lo dr => (dr_val lo dr).2.1) (pv 0))) yab_nil))) (yb_of (ye_var 1 (pv 1))))))
    (yss_cons (ys_drSet (f := fun dr x => { dr with rest := x }) c.pc (fun lo dr x => (dr_put lo dr x).1) (fun _ _ => ⟨rfl, rfl⟩) (pv 0) (ye_bin bs_div (yb_of (ye_callTy cs_int F.m_int (yab_cons (yb_of (ye_dr c.pc (fun lo dr => (dr_val lo dr).2.1) (pv 0))) yab_nil))) (yb_of (ye_var 1 (pv 1)))))
    (yss_one (ys_ret (ye_var 2 (pv 2)))))))
/-! ### _law_pick -/
abbrev t21 : Stmt := topS 21
abbrev n21 : List Str := ["draw", "some"]
theorem s21 : FnScope n21 ["draw", "some"] (defScope t21) := ⟨rfl, rfl, rfl, by decide +kernel, rfl, by decide +kernel, by decide +kernel⟩
noncomputable def b_law_pick : SS :=
  (sRet (sBin dIx (sVar 1) (sCallF f_law_take (sCons (sVar 0) (sCons (sCall dLen (sCons (sVar 1) sNil)) sNil)))))
theorem x_law_pick : ∃ f : FS, f = fD 2 b_law_pick := ⟨_, rfl⟩
noncomputable def f_law_pick : FS := Classical.choose x_law_pick
theorem e_law_pick : f_law_pick = fD 2 b_law_pick := Classical.choose_spec x_law_pick
theorem d_law_pick (F : Fx P w K mg base ce co ct) : Df P w K mg base ce "_law_pick" "_law_pick" t21 ["draw", "some"] 3 f_law_pick :=
  e_law_pick ▸ F.t21.df s21 (fun _ _ _ _ _ _ us hl => match us, hl with | [_, _], _ => rfl) fun f cd A outer s H E c tk =>
   (yss_one (ys_ret (ye_ix (yb_of (ye_var 1 (pv 1))) (yb_of (ye_call (d_law_take F) c (by decide) (ya_cons (ye_var 0 (pv 0)) (ya_cons (ye_callB cs_len F.m_len (yab_cons (yb_of (ye_var 1 (pv 1))) yab_nil)) ya_nil)) (len_cons (len_cons len_nil)))))))
/-! ### _law_kinds -/
abbrev t23 : Stmt := topS 23
abbrev n23 : List Str := ["thing", "found", "line", "here", "kind", "named", "key", "name"]
theorem s23 : FnScope n23 ["thing"] (defScope t23) := ⟨rfl, rfl, rfl, by decide +kernel, rfl, by decide +kernel, by decide +kernel⟩
noncomputable def b_law_kinds : SS :=
  (sSeq (sPar [1, 2] (zCons (zF (sLst sNil)) (zCons (zF (sLst (sCons (sVar 0) sNil))) zNil))) (sSeq (sWhile fuel (sBin dNe (sVarB 2) (sL (sLst sNil))) (sSeq (sPop 3 2) (sSeq (sSet 4 (zV (sIf (sIs (isB .tuple) (sVar 3)) (sC (.str "tuple")) (sIf (sIs (isB .list) (sVar 3)) (sC (.str "list")) (sIf (sIs (isB .dict) (sVar 3)) (sC (.str "dict")) (sIf (sIs (isB .bool) (sVar 3)) (sC (.str "bool")) (sC (.str "other")))))))) (sSeq (sApp 1 (sVar 4)) (sSeq (sIfS (sBin dIn (sVar 4) (sL (sLst (sCons (sC (.str "tuple")) (sCons (sC (.str "list")) sNil))))) (sSet 2 (zF (sCat (sVarB 2) (sL (sItems (sVar 3)))))) sNext) (sIfS (sBin dEq (sVar 4) (sC (.str "dict"))) (sSeq (sSet 5 (zV (sCall dDict (sCons (sL (sComp (sItems (sVar 3)) (gN 6) cYes (sTup (sCons sFail (sCons (sVar 6) sNil))) [6])) sNil)))) (sSet 2 (zF (sCat (sBin dAdd (sVarB 2) (sL (sComp (sItems sFail) (gN 7) cYes (sBin dGet (sVar 5) (sVar 7)) [7]))) (sL (sComp (sItems sFail) (gN 7) cYes (sBin dIx (sVar 3) (sBin dGet (sVar 5) (sVar 7))) [7])))))) sNext)))))) (sShare 1 (sRet (sVar 1)))))
theorem x_law_kinds : ∃ f : FS, f = fD 8 b_law_kinds := ⟨_, rfl⟩
noncomputable def f_law_kinds : FS := Classical.choose x_law_kinds
theorem e_law_kinds : f_law_kinds = fD 8 b_law_kinds := Classical.choose_spec x_law_kinds
theorem d_law_kinds (F : Fx P w K mg base ce co ct) : Df P w K mg base ce "_law_kinds" "_law_kinds" t23 ["thing"] 1 f_law_kinds :=
  e_law_kinds ▸ F.t23.df s23 (fun _ _ _ _ _ _ us hl => match us, hl with | [_], _ => rfl) fun f cd A outer s H E c tk =>
   (yss_cons (ys_par (i := 1) (j := 2) rfl c.pc.nd rfl rfl (by decide) rfl rfl (yz_f (yf_lst ya_nil)) (yz_f (yf_lst (ya_cons (ye_var 0 (pv 0)) ya_nil))) rfl)
    (yss_cons (ys_while fuel c.po (yt_cmp (bs_ne c.pc) (yb_var 2 (pv 2)) (yb_of (ye_of_f (yf_lst ya_nil))))
    (yss_cons (ys_pop 3 2 c.pc.nd rfl (by first | exact .inl rfl | exact .inr rfl) (pv 2))
    (yss_cons (ys_set (i := 4) c.pc.nd rfl (by first | exact .inl rfl | exact .inr rfl) (yz_v (ye_if (yt_val (ye_is F.m_isinstance (isC_ty .tuple) (.ty _) (yb_of (ye_var 3 (pv 3))) (pe_tyN F.m_tuple))) ye_str (ye_if (yt_val (ye_is F.m_isinstance (isC_ty .list) (.ty _) (yb_of (ye_var 3 (pv 3))) (pe_tyN F.m_list))) ye_str (ye_if (yt_val (ye_is F.m_isinstance (isC_ty .dict) (.ty _) (yb_of (ye_var 3 (pv 3))) (pe_tyN F.m_dict))) ye_str (ye_if (yt_val (ye_is F.m_isinstance (isC_ty .bool) (.ty _) (yb_of (ye_var 3 (pv 3))) (pe_tyN F.m_bool))) ye_str ye_str))))))
    (yss_cons (ys_app 1 (pv 1) (ye_var 4 (pv 4)))
    (yss_cons (ys_if (yt_cmp (bs_in c.pc) (yb_of (ye_var 4 (pv 4))) (yb_of (ye_of_f (yf_lst (ya_cons ye_str (ya_cons ye_str ya_nil))))))
    (yss_one (ys_set (i := 2) c.pc.nd rfl (by first | exact .inl rfl | exact .inr rfl) (yz_f (yf_cat (yb_var 2 (pv 2)) (yb_of (ye_of_f (yf_list F.m_list (yb_of (ye_var 3 (pv 3)))))))))) yss_nil)
    (yss_one (ys_if (yt_cmp (bs_eq c.pc) (yb_of (ye_var 4 (pv 4))) (yb_of ye_str))
    (yss_cons (ys_set (i := 5) c.pc.nd rfl (by first | exact .inl rfl | exact .inr rfl) (yz_v (ye_callTy (cs_dict c.pc) F.m_dict (yab_cons (yb_of (ye_of_f (pe_comp (t := (gName 6)) (own := [("key", 6)]) rfl c.pc.nd (yi_seq (yc_e (ye_var 3 (pv 3)))) (blkOk_by (by first | decide +kernel | rfl)) gsm_name (by decide)
      (fun _ _ _ _ _ => (pg_name (i := 6) c.blk.pc.nd rfl (by first | exact .inl rfl | exact .inr rfl))) (fun _ _ _ _ _ => yts_nil) (fun _ _ _ _ _ => (ye_tup (ya_cons ye_fail (ya_cons (ye_var 6 (pv 6)) ya_nil))))))) yab_nil))))
    (yss_one (ys_set (i := 2) c.pc.nd rfl (by first | exact .inl rfl | exact .inr rfl) (yz_f (yf_cat (yb_of (ye_bin bs_add (yb_var 2 (pv 2)) (yb_of (ye_of_f (pe_comp (t := (gName 7)) (own := [("name", 7)]) rfl c.pc.nd (yi_seq (yc_e ye_fail)) (blkOk_by (by first | decide +kernel | rfl)) gsm_name (by decide)
      (fun _ _ _ _ _ => (pg_name (i := 7) c.blk.pc.nd rfl (by first | exact .inl rfl | exact .inr rfl))) (fun _ _ _ _ _ => yts_nil) (fun _ _ _ _ _ => (ye_get c.blk.pc (yb_of (ye_var 5 (pv 5))) (yb_of (ye_var 7 (pv 7)))))))))) (yb_of (ye_of_f (pe_comp (t := (gName 7)) (own := [("name", 7)]) rfl c.pc.nd (yi_seq (yc_e ye_fail)) (blkOk_by (by first | decide +kernel | rfl)) gsm_name (by decide)
      (fun _ _ _ _ _ => (pg_name (i := 7) c.blk.pc.nd rfl (by first | exact .inl rfl | exact .inr rfl))) (fun _ _ _ _ _ => yts_nil) (fun _ _ _ _ _ => (ye_ix (yb_of (ye_var 3 (pv 3))) (yb_of (ye_get c.blk.pc (yb_of (ye_var 5 (pv 5))) (yb_of (ye_var 7 (pv 7))))))))))))))) yss_nil)))))))
    (yss_one (ys_share 1 (ys_ret (ye_var 1 (pv 1)))))))
/-! ### _law_says -/
abbrev t24 : Stmt := topS 24
abbrev n24 : List Str := ["told", "due"]
theorem s24 : FnScope n24 ["told", "due"] (defScope t24) := ⟨rfl, rfl, rfl, by decide +kernel, rfl, by decide +kernel, by decide +kernel⟩
noncomputable def b_law_says : SS :=
  (sRet (sAnd (sBin dEq (sVar 0) (sVar 1)) (sBin dEq (sCallF f_law_kinds (sCons (sVar 0) sNil)) (sCallF f_law_kinds (sCons (sVar 1) sNil)))))
theorem x_law_says : ∃ f : FS, f = fD 2 b_law_says := ⟨_, rfl⟩
noncomputable def f_law_says : FS := Classical.choose x_law_says
theorem e_law_says : f_law_says = fD 2 b_law_says := Classical.choose_spec x_law_says
theorem d_law_says (F : Fx P w K mg base ce co ct) : Df P w K mg base ce "_law_says" "_law_says" t24 ["told", "due"] 2 f_law_says :=
  e_law_says ▸ F.t24.df s24 (fun _ _ _ _ _ _ us hl => match us, hl with | [_, _], _ => rfl) fun f cd A outer s H E c tk =>
   (yss_one (ys_ret (ye_and (ye_cmp (bs_eq c.pc) (yb_of (ye_var 0 (pv 0))) (yb_of (ye_var 1 (pv 1)))) (ye_one (ye_cmp (bs_eq c.pc) (yb_of (ye_call (d_law_kinds F) c (by decide) (ya_cons (ye_var 0 (pv 0)) ya_nil) (len_cons len_nil))) (yb_of (ye_call (d_law_kinds F) c (by decide) (ya_cons (ye_var 1 (pv 1)) ya_nil) (len_cons len_nil))))))))
/-! ### _law_ratio -/
abbrev t25 : Stmt := topS 25
abbrev n25 : List Str := ["number"]
theorem s25 : FnScope n25 ["number"] (defScope t25) := ⟨rfl, rfl, rfl, by decide +kernel, rfl, by decide +kernel, by decide +kernel⟩
noncomputable def b_law_ratio : SS :=
  (sRet (sIf (sIs (isB .tuple) (sVar 0)) (sVar 0) (sTup (sCons (sVar 0) (sCons (sC (.int 1)) sNil)))))
theorem x_law_ratio : ∃ f : FS, f = fD 1 b_law_ratio := ⟨_, rfl⟩
noncomputable def f_law_ratio : FS := Classical.choose x_law_ratio
theorem e_law_ratio : f_law_ratio = fD 1 b_law_ratio := Classical.choose_spec x_law_ratio
theorem d_law_ratio (F : Fx P w K mg base ce co ct) : Df P w K mg base ce "_law_ratio" "_law_ratio" t25 ["number"] 1 f_law_ratio :=
  e_law_ratio ▸ F.t25.df s25 (fun _ _ _ _ _ _ us hl => match us, hl with | [_], _ => rfl) fun f cd A outer s H E c tk =>
   (yss_one (ys_ret (ye_if (yt_val (ye_is F.m_isinstance (isC_ty .tuple) (.ty _) (yb_of (ye_var 0 (pv 0))) (pe_tyN F.m_tuple))) (ye_var 0 (pv 0)) (ye_tup (ya_cons (ye_var 0 (pv 0)) (ya_cons ye_int ya_nil))))))
/-! ### _law_signed -/
abbrev t26 : Stmt := topS 26
abbrev n26 : List Str := ["one", "turns"]
theorem s26 : FnScope n26 ["one", "turns"] (defScope t26) := ⟨rfl, rfl, rfl, by decide +kernel, rfl, by decide +kernel, by decide +kernel⟩
noncomputable def b_law_signed : SS :=
  (sRet (sIf (sBin dEq (sBin dMod (sCall dInt (sCons (sVar 1) sNil)) (sC (.int 2))) (sC (.int 0))) (sVar 0) (sTup (sCons (sBin dSub (sC (.int 0)) (sBin dIx (sVar 0) (sC (.int 0)))) (sCons (sBin dIx (sVar 0) (sC (.int 1))) sNil)))))
theorem x_law_signed : ∃ f : FS, f = fD 2 b_law_signed := ⟨_, rfl⟩
noncomputable def f_law_signed : FS := Classical.choose x_law_signed
theorem e_law_signed : f_law_signed = fD 2 b_law_signed := Classical.choose_spec x_law_signed
theorem d_law_signed (F : Fx P w K mg base ce co ct) : Df P w K mg base ce "_law_signed" "_law_signed" t26 ["one", "turns"] 1 f_law_signed :=
  e_law_signed ▸ F.t26.df s26 (fun _ _ _ _ _ _ us hl => match us, hl with | [_, _], _ => rfl) fun f cd A outer s H E c tk =>
   (yss_one (ys_ret (ye_if (yt_cmp (bs_eq c.pc) (yb_of (ye_bin bs_mod (yb_of (ye_callTy cs_int F.m_int (yab_cons (yb_of (ye_var 1 (pv 1))) yab_nil))) (yb_of ye_int))) (yb_of ye_int)) (ye_var 0 (pv 0)) (ye_tup (ya_cons (ye_bin bs_sub (yb_of ye_int) (yb_of (ye_ix (yb_of (ye_var 0 (pv 0))) (yb_of ye_int)))) (ya_cons (ye_ix (yb_of (ye_var 0 (pv 0))) (yb_of ye_int)) ya_nil))))))
/-! ### _law_changes -/
abbrev t27 : Stmt := topS 27
abbrev n27 : List Str := ["row", "signs", "item", "at"]
theorem s27 : FnScope n27 ["row"] (defScope t27) := ⟨rfl, rfl, rfl, by decide +kernel, rfl, by decide +kernel, by decide +kernel⟩
noncomputable def b_law_changes : SS :=
  (sSeq (sSet 1 (zV (sL (sComp (sItems (sVar 0)) (gN 2) (sT (sBin dNe (sBin dIx (sVar 2) (sC (.int 0))) (sC (.int 0)))) (sBin dGt (sBin dIx (sVar 2) (sC (.int 0))) (sC (.int 0))) [2])))) (sRet (sIf (sBin dNe (sVar 1) (sL (sLst sNil))) (sCall dLen (sCons (sL (sComp (sRange2 (sC (.int 1)) (sCall dLen (sCons (sVar 1) sNil))) (gN 3) (sT (sBin dNe (sBin dIx (sVar 1) (sVar 3)) (sBin dIx (sVar 1) (sBin dSub (sVar 3) (sC (.int 1)))))) (sVar 3) [3])) sNil)) (sBin dSub (sC (.int 0)) (sC (.int 1))))))
theorem x_law_changes : ∃ f : FS, f = fD 4 b_law_changes := ⟨_, rfl⟩
noncomputable def f_law_changes : FS := Classical.choose x_law_changes
theorem e_law_changes : f_law_changes = fD 4 b_law_changes := Classical.choose_spec x_law_changes
theorem d_law_changes (F : Fx P w K mg base ce co ct) : Df P w K mg base ce "_law_changes" "_law_changes" t27 ["row"] 1 f_law_changes :=
  e_law_changes ▸ F.t27.df s27 (fun _ _ _ _ _ _ us hl => match us, hl with | [_], _ => rfl) fun f cd A outer s H E c tk =>
   (yss_cons (ys_set (i := 1) c.pc.nd rfl (by first | exact .inl rfl | exact .inr rfl) (yz_v (ye_of_f (pe_comp (t := (gName 2)) (own := [("item", 2)]) rfl c.pc.nd (yi_seq (yc_e (ye_var 0 (pv 0)))) (blkOk_by (by first | decide +kernel | rfl)) gsm_name (by decide)
      (fun _ _ _ _ _ => (pg_name (i := 2) c.blk.pc.nd rfl (by first | exact .inl rfl | exact .inr rfl))) (fun _ _ _ _ _ => (yts_one (yt_cmp (bs_ne c.blk.pc) (yb_of (ye_ix (yb_of (ye_var 2 (pv 2))) (yb_of ye_int))) (yb_of ye_int)))) (fun _ _ _ _ _ => (ye_cmp bs_gt (yb_of (ye_ix (yb_of (ye_var 2 (pv 2))) (yb_of ye_int))) (yb_of ye_int)))))))
    (yss_one (ys_ret (ye_if (yt_cmp (bs_ne c.pc) (yb_of (ye_var 1 (pv 1))) (yb_of (ye_of_f (yf_lst ya_nil)))) (ye_callB cs_len F.m_len (yab_cons (yb_of (ye_of_f (pe_comp (t := (gName 3)) (own := [("at", 3)]) rfl c.pc.nd (yi_range2 F.m_range ye_int (ye_callB cs_len F.m_len (yab_cons (yb_of (ye_var 1 (pv 1))) yab_nil))) (blkOk_by (by first | decide +kernel | rfl)) gsm_name (by decide)
      (fun _ _ _ _ _ => (pg_name (i := 3) c.blk.pc.nd rfl (by first | exact .inl rfl | exact .inr rfl))) (fun _ _ _ _ _ => (yts_one (yt_cmp (bs_ne c.blk.pc) (yb_of (ye_ix (yb_of (ye_var 1 (pv 1))) (yb_of (ye_var 3 (pv 3))))) (yb_of (ye_ix (yb_of (ye_var 1 (pv 1))) (yb_of (ye_bin bs_sub (yb_of (ye_var 3 (pv 3))) (yb_of ye_int)))))))) (fun _ _ _ _ _ => (ye_var 3 (pv 3)))))) yab_nil)) (ye_bin bs_sub (yb_of ye_int) (yb_of ye_int))))))
/-! ### _law_filled -/
abbrev t28 : Stmt := topS 28
abbrev n28 : List Str := ["row", "line", "item", "signs", "sign", "at"]
theorem s28 : FnScope n28 ["row"] (defScope t28) := ⟨rfl, rfl, rfl, by decide +kernel, rfl, by decide +kernel, by decide +kernel⟩
noncomputable def b_law_filled : SS :=
  (sSeq (sSet 1 (zV (sL (sLst (sCons (sTup sNil) sNil))))) (sSeq (sFor (sItems (sVar 0)) (gN 2) (sSet 1 (zV (sSumL (sL (sComp (sItems (sVar 1)) (gN 3) cYes (sL (sComp (sItems (sIf (sBin dEq (sBin dIx (sVar 2) (sC (.int 0))) (sC (.int 0))) (sL (sLst (sCons (sC (.int 1)) (sCons (sBin dSub (sC (.int 0)) (sC (.int 1))) sNil)))) (sL (sLst (sCons (sIf (sBin dGt (sBin dIx (sVar 2) (sC (.int 0))) (sC (.int 0))) (sC (.int 1)) (sBin dSub (sC (.int 0)) (sC (.int 1)))) sNil))))) (gN 4) cYes (sBin dAdd (sVar 3) (sTup (sCons (sVar 4) sNil))) [4])) [3])))))) (sRet (sCall dMax (sCons (sL (sComp (sItems (sVar 1)) (gN 3) cYes (sCall dLen (sCons (sL (sComp (sRange2 (sC (.int 1)) (sCall dLen (sCons (sVar 3) sNil))) (gN 5) (sT (sBin dNe (sBin dIx (sVar 3) (sVar 5)) (sBin dIx (sVar 3) (sBin dSub (sVar 5) (sC (.int 1)))))) (sVar 5) [5])) sNil)) [3])) sNil)))))
theorem x_law_filled : ∃ f : FS, f = fD 6 b_law_filled := ⟨_, rfl⟩
noncomputable def f_law_filled : FS := Classical.choose x_law_filled
theorem e_law_filled : f_law_filled = fD 6 b_law_filled := Classical.choose_spec x_law_filled
theorem d_law_filled (F : Fx P w K mg base ce co ct) : Df P w K mg base ce "_law_filled" "_law_filled" t28 ["row"] 1 f_law_filled :=
  e_law_filled ▸ F.t28.df s28 (fun _ _ _ _ _ _ us hl => match us, hl with | [_], _ => rfl) fun f cd A outer s H E c tk =>
   (yss_cons (ys_set (i := 1) c.pc.nd rfl (by first | exact .inl rfl | exact .inr rfl) (yz_v (ye_of_f (yf_lst (ya_cons (ye_tup ya_nil) ya_nil)))))
    (yss_cons (ys_for (t := (gName 2)) c.po rfl (yi_seq (yc_e (ye_var 0 (pv 0)))) (pg_name (i := 2) c.pc.nd rfl (by first | exact .inl rfl | exact .inr rfl)) gsm_name
    (yss_one (ys_set (i := 1) c.pc.nd rfl (by first | exact .inl rfl | exact .inr rfl) (yz_v (ye_sumL c.pc.calm F.m_sum (ye_of_f (pe_comp (t := (gName 3)) (own := [("signs", 3)]) rfl c.pc.nd (yi_seq (yc_e (ye_var 1 (pv 1)))) (blkOk_by (by first | decide +kernel | rfl)) gsm_name (by decide)
      (fun _ _ _ _ _ => (pg_name (i := 3) c.blk.pc.nd rfl (by first | exact .inl rfl | exact .inr rfl))) (fun _ _ _ _ _ => yts_nil) (fun _ _ _ _ _ => (ye_of_f (pe_comp (t := (gName 4)) (own := [("sign", 4)]) rfl c.blk.pc.nd (yi_seq (yc_e (ye_if (yt_cmp (bs_eq c.blk.pc) (yb_of (ye_ix (yb_of (ye_var 2 (pv 2))) (yb_of ye_int))) (yb_of ye_int)) (ye_of_f (yf_lst (ya_cons ye_int (ya_cons (ye_bin bs_sub (yb_of ye_int) (yb_of ye_int)) ya_nil)))) (ye_of_f (yf_lst (ya_cons (ye_if (yt_cmp bs_gt (yb_of (ye_ix (yb_of (ye_var 2 (pv 2))) (yb_of ye_int))) (yb_of ye_int)) ye_int (ye_bin bs_sub (yb_of ye_int) (yb_of ye_int))) ya_nil)))))) (blkOk_by (by first | decide +kernel | rfl)) gsm_name (by decide)
      (fun _ _ _ _ _ => (pg_name (i := 4) c.blk.blk.pc.nd rfl (by first | exact .inl rfl | exact .inr rfl))) (fun _ _ _ _ _ => yts_nil) (fun _ _ _ _ _ => (ye_bin bs_add (yb_of (ye_var 3 (pv 3))) (yb_of (ye_tup (ya_cons (ye_var 4 (pv 4)) ya_nil)))))))))))))))
    (yss_one (ys_ret (ye_callB (cs_max c.pc) F.m_max (yab_cons (yb_of (ye_of_f (pe_comp (t := (gName 3)) (own := [("signs", 3)]) rfl c.pc.nd (yi_seq (yc_e (ye_var 1 (pv 1)))) (blkOk_by (by first | decide +kernel | rfl)) gsm_name (by decide)
      (fun _ _ _ _ _ => (pg_name (i := 3) c.blk.pc.nd rfl (by first | exact .inl rfl | exact .inr rfl))) (fun _ _ _ _ _ => yts_nil) (fun _ _ _ _ _ => (ye_callB cs_len F.m_len (yab_cons (yb_of (ye_of_f (pe_comp (t := (gName 5)) (own := [("at", 5)]) rfl c.blk.pc.nd (yi_range2 F.m_range ye_int (ye_callB cs_len F.m_len (yab_cons (yb_of (ye_var 3 (pv 3))) yab_nil))) (blkOk_by (by first | decide +kernel | rfl)) gsm_name (by decide)
      (fun _ _ _ _ _ => (pg_name (i := 5) c.blk.blk.pc.nd rfl (by first | exact .inl rfl | exact .inr rfl))) (fun _ _ _ _ _ => (yts_one (yt_cmp (bs_ne c.blk.blk.pc) (yb_of (ye_ix (yb_of (ye_var 3 (pv 3))) (yb_of (ye_var 5 (pv 5))))) (yb_of (ye_ix (yb_of (ye_var 3 (pv 3))) (yb_of (ye_bin bs_sub (yb_of (ye_var 5 (pv 5))) (yb_of ye_int)))))))) (fun _ _ _ _ _ => (ye_var 5 (pv 5)))))) yab_nil)))))) yab_nil))))))
/-! ### _law_right -/
abbrev t29 : Stmt := topS 29
abbrev n29 : List Str := ["draw", "some", "row", "ratios", "due", "turned", "many", "at", "near", "thing", "item"]
theorem s29 : FnScope n29 ["draw"] (defScope t29) := ⟨rfl, rfl, rfl, by decide +kernel, rfl, by decide +kernel, by decide +kernel⟩
noncomputable def b_law_right : SS :=
  (sSeq (sSet 1 (zV (sL (sLst (sCons (sC (.int 0)) (sCons (sTup (sCons (sC (.int 0)) (sCons (sC (.int 1)) sNil))) (sCons (sC (.int 0)) (sCons (sC (.int 1)) (sCons (sUn dNeg (sC (.int 1))) (sCons (sTup (sCons (sC (.int 1)) (sCons (sC (.int 2)) sNil))) (sCons (sTup (sCons (sUn dNeg (sC (.int 1))) (sCons (sC (.int 3)) sNil))) (sCons (sBin dPow (sC (.int 10)) (sC (.int 20))) (sCons (sTup (sCons (sUn dNeg (sBin dPow (sC (.int 10)) (sC (.int 20)))) (sCons (sC (.int 3)) sNil))) (sCons (sUn dNeg (sC (.int 5))) sNil)))))))))))))) (sSeq (sSet 2 (zV (sL (sComp (sRange1 (sBin dAdd (sC (.int 1)) (sCallF f_law_take (sCons (sVar 0) (sCons (sC (.int 8)) sNil))))) (gN 7) cYes (sCallF f_law_pick (sCons (sVar 0) (sCons (sVar 1) sNil))) [7])))) (sSeq (sSet 3 (zV (sL (sComp (sItems (sVar 2)) (gN 10) cYes (sCallF f_law_ratio (sCons (sVar 10) sNil)) [10])))) (sSeq (sSet 4 (zV (sL (sLst (sCons (sCallF f_law_changes (sCons (sVar 3) sNil)) (sCons (sCallF f_law_filled (sCons (sVar 3) sNil)) sNil)))))) (sSeq (sIfS (sNot (sCallF f_law_says (sCons (sL (sLst (sCons (sCallF f_changes (sCons (sL (sItems (sVar 2))) sNil)) (sCons (sCallF f_filled_changes (sCons (sL (sItems (sVar 2))) sNil)) (sCons (sCallF f_changes (sPick [0] (sCons (sCall dTuple (sCons (sVar 2) sNil)) sNil))) (sCons (sCallF f_filled_changes (sPick [0] (sCons (sCall dTuple (sCons (sVar 3) sNil)) sNil))) sNil)))))) (sCons (sBin dAdd (sVar 4) (sVar 4)) sNil)))) (sRet (sC (.bl false))) sNext) (sSeq (sPar [5, 6] (zCons (zV (sL (sComp (sEnum (sVar 3)) (gTp (gCn (gN 7) (gCn (gN 10) gNl))) cYes (sCallF f_law_signed (sCons (sVar 10) (sCons (sVar 7) sNil))) [7, 10]))) (zCons (zV (sCall dLen (sCons (sVar 3) sNil))) zNil))) (sSeq (sIfS (sAnd (sBin dNe (sL (sComp (sItems (sVar 3)) (gN 10) (sT (sBin dNe (sBin dIx (sVar 10) (sC (.int 0))) (sC (.int 0)))) (sVar 10) [10])) (sL (sLst sNil))) (sBin dNe (sBin dAdd (sCallF f_changes (sCons (sL (sItems (sVar 2))) sNil)) (sCallF f_filled_changes (sCons (sVar 5) sNil))) (sBin dSub (sVar 6) (sC (.int 1))))) (sRet (sC (.bl false))) sNext) (sSeq (sSet 7 (zV (sCallF f_law_take (sCons (sVar 0) (sCons (sVar 6) sNil))))) (sSeq (sSet 8 (zV (sBin dAdd (sBin dAdd (sCut (sVar 2) sNoP (sP (sVar 7))) (sL (sLst (sCons (sCallF f_law_pick (sCons (sVar 0) (sCons (sL (sLst (sCons (sC .non) (sCons (sC (.bl true)) (sCons (sTup (sCons (sC (.int 2)) (sCons (sC (.int 4)) sNil))) (sCons (sTup (sCons (sC (.int 1)) (sCons (sC (.int 0)) sNil))) (sCons (sTup (sCons (sC (.int 1)) (sCons (sUn dNeg (sC (.int 2))) sNil))) (sCons (sC (.str "1")) (sCons (sL (sLst (sCons (sC (.int 1)) (sCons (sC (.int 2)) sNil)))) (sCons (sTup (sCons (sC (.int 1)) sNil)) sNil)))))))))) sNil))) sNil)))) (sCut (sVar 2) (sP (sBin dAdd (sVar 7) (sC (.int 1)))) sNoP)))) (sSeq (sFor (sItems (sL (sLst (sCons (sVar 8) (sCons (sCallF f_law_pick (sCons (sVar 0) (sCons (sL (sLst (sCons (sL (sLst sNil)) (sCons (sTup sNil) (sCons (sC .non) (sCons (sC (.int 5)) (sCons (sC (.str "rows")) (sCons (sC (.dic [] [])) (sCons (sBin dMul (sL (sLst (sCons (sC (.int 0)) sNil))) (sC (.int 9))) (sCons (sDict [((sC (.int 0)), (sC (.int 1)))]) sNil)))))))))) sNil))) sNil))))) (gN 9) (sIfS (sOr (sNot (sIs (isE errR 2 1) (sCaught isPl (sCallF f_changes (sCons (sVar 9) sNil))))) (sNot (sIs (isE errR 2 1) (sCaught isPl (sCallF f_filled_changes (sCons (sVar 9) sNil)))))) (sRet (sC (.bl false))) sNext)) (sRet (sC (.bl true)))))))))))))
theorem x_law_right : ∃ f : FS, f = fD 11 b_law_right := ⟨_, rfl⟩
noncomputable def f_law_right : FS := Classical.choose x_law_right
theorem e_law_right : f_law_right = fD 11 b_law_right := Classical.choose_spec x_law_right
theorem d_law_right (F : Fx P w K mg base ce co ct) : Df P w K mg base ce "_law_right" "_law_right" t29 ["draw"] 8 f_law_right :=
  e_law_right ▸ F.t29.df s29 (fun _ _ _ _ _ _ us hl => match us, hl with | [_], _ => rfl) fun f A outer s H E c tk =>
   (yss_cons (ys_set (i := 1) c.pc.nd rfl (by first | exact .inl rfl | exact .inr rfl) (yz_v (ye_of_f (yf_lst (ya_cons ye_int (ya_cons (ye_tup (ya_cons ye_int (ya_cons ye_int ya_nil))) (ya_cons ye_int (ya_cons ye_int (ya_cons (ye_un us_neg (yb_of ye_int)) (ya_cons (ye_tup (ya_cons ye_int (ya_cons ye_int ya_nil))) (ya_cons (ye_tup (ya_cons (ye_un us_neg (yb_of ye_int)) (ya_cons ye_int ya_nil))) (ya_cons (ye_bin bs_pow (yb_of ye_int) (yb_of ye_int)) (ya_cons (ye_tup (ya_cons (ye_un us_neg (yb_of (ye_bin bs_pow (yb_of ye_int) (yb_of ye_int)))) (ya_cons ye_int ya_nil))) (ya_cons (ye_un us_neg (yb_of ye_int)) ya_nil))))))))))))))
    (yss_cons (ys_lcv (ys_setLc (i := 2) (t := (gName 7)) (own := [("at", 7)]) rfl c.pc.nd rfl rfl (sw_true rfl rfl rfl (by decide +kernel)) (yi_range1 F.m_range (ye_bin bs_add (yb_of ye_int) (yb_of (ye_call (d_law_take F) c (by decide) (ya_cons (ye_var 0 (pv 0)) (ya_cons ye_int ya_nil)) (len_cons (len_cons len_nil)))))) (blkOk_by (by first | decide +kernel | rfl)) gsm_name (by decide)
      (fun _ _ _ _ _ => (pg_name (i := 7) c.blk.pc.nd rfl (by first | exact .inl rfl | exact .inr rfl))) (fun _ _ _ _ _ => yts_nil) (fun _ _ _ _ _ => (ye_call (d_law_pick F) c.blk (by decide) (ya_cons (ye_var 0 (pv 0)) (ya_cons (ye_var 1 (pv 1)) ya_nil)) (len_cons (len_cons len_nil))))))
    (yss_cons (ys_lcv (ys_setLc (i := 3) (t := (gName 10)) (own := [("item", 10)]) rfl c.pc.nd rfl rfl (sw_true rfl rfl rfl (by decide +kernel)) (yi_seq (yc_e (ye_var 2 (pv 2)))) (blkOk_by (by first | decide +kernel | rfl)) gsm_name (by decide)
      (fun _ _ _ _ _ => (pg_name (i := 10) c.blk.pc.nd rfl (by first | exact .inl rfl | exact .inr rfl))) (fun _ _ _ _ _ => yts_nil) (fun _ _ _ _ _ => (ye_call (d_law_ratio F) c.blk (by decide) (ya_cons (ye_var 10 (pv 10)) ya_nil) (len_cons len_nil)))))
    (yss_cons (ys_set (i := 4) c.pc.nd rfl (by first | exact .inl rfl | exact .inr rfl) (yz_v (ye_of_f (yf_lst (ya_cons (ye_call (d_law_changes F) c (by decide) (ya_cons (ye_var 3 (pv 3)) ya_nil) (len_cons len_nil)) (ya_cons (ye_call (d_law_filled F) c (by decide) (ya_cons (ye_var 3 (pv 3)) ya_nil) (len_cons len_nil)) ya_nil))))))
    (yss_cons (ys_if (yt_not (yt_val (ye_call (d_law_says F) c (by decide) (ya_cons (ye_of_f (yf_lst (ya_cons (ye_call (d_changes F) c (by decide) (ya_cons (ye_of_f (yf_list F.m_list (yb_of (ye_var 2 (pv 2))))) ya_nil) (len_cons len_nil)) (ya_cons (ye_call (d_filled_changes F) c (by decide) (ya_cons (ye_of_f (yf_list F.m_list (yb_of (ye_var 2 (pv 2))))) ya_nil) (len_cons len_nil)) (ya_cons (ye_callK (ks := ["row"]) [0] (d_changes F) c (by decide) (yk_cons (ye_callTy cs_tuple F.m_tuple (yab_cons (yb_of (ye_var 2 (pv 2))) yab_nil)) yk_nil) rfl (fun _ _ _ _ _ _ us hl => match us, hl with | [_], _ => rfl) (len_cons len_nil)) (ya_cons (ye_callK (ks := ["row"]) [0] (d_filled_changes F) c (by decide) (yk_cons (ye_callTy cs_tuple F.m_tuple (yab_cons (yb_of (ye_var 3 (pv 3))) yab_nil)) yk_nil) rfl (fun _ _ _ _ _ _ us hl => match us, hl with | [_], _ => rfl) (len_cons len_nil)) ya_nil)))))) (ya_cons (ye_bin bs_add (yb_of (ye_var 4 (pv 4))) (yb_of (ye_var 4 (pv 4)))) ya_nil)) (len_cons (len_cons len_nil)))))
    (yss_one (ys_ret ye_bl)) yss_nil)
    (yss_cons (ys_par (i := 5) (j := 6) rfl c.pc.nd rfl rfl (by decide) rfl rfl (yz_v (ye_of_f (pe_comp (t := (gTup _ 2 (gCons (gName 7) (gCons (gName 10) gNil)))) (own := [("at", 7), ("item", 10)]) rfl c.pc.nd (yi_enum F.m_enumerate (yc_e (ye_var 3 (pv 3)))) (blkOk_by (by first | decide +kernel | rfl)) (gsm_tup (gsms_cons gsm_name (gsms_cons gsm_name gsms_nil))) (by decide)
      (fun _ _ _ _ _ => (pg_tup rfl (pgs_cons (pg_name (i := 7) c.blk.pc.nd rfl (by first | exact .inl rfl | exact .inr rfl)) (pgs_cons (pg_name (i := 10) c.blk.pc.nd rfl (by first | exact .inl rfl | exact .inr rfl)) pgs_nil)))) (fun _ _ _ _ _ => yts_nil) (fun _ _ _ _ _ => (ye_call (d_law_signed F) c.blk (by decide) (ya_cons (ye_var 10 (pv 10)) (ya_cons (ye_var 7 (pv 7)) ya_nil)) (len_cons (len_cons len_nil))))))) (yz_v (ye_callB cs_len F.m_len (yab_cons (yb_of (ye_var 3 (pv 3))) yab_nil))) rfl)
    (yss_cons (ys_if ((yw_and (yt_cmp (bs_ne c.pc) (yb_of (ye_of_f (pe_comp (t := (gName 10)) (own := [("item", 10)]) rfl c.pc.nd (yi_seq (yc_e (ye_var 3 (pv 3)))) (blkOk_by (by first | decide +kernel | rfl)) gsm_name (by decide)
      (fun _ _ _ _ _ => (pg_name (i := 10) c.blk.pc.nd rfl (by first | exact .inl rfl | exact .inr rfl))) (fun _ _ _ _ _ => (yts_one (yt_cmp (bs_ne c.blk.pc) (yb_of (ye_ix (yb_of (ye_var 10 (pv 10))) (yb_of ye_int))) (yb_of ye_int)))) (fun _ _ _ _ _ => (ye_var 10 (pv 10)))))) (yb_of (ye_of_f (yf_lst ya_nil)))) (yw_and1 (yt_cmp (bs_ne c.pc) (yb_of (ye_bin bs_add (yb_of (ye_call (d_changes F) c (by decide) (ya_cons (ye_of_f (yf_list F.m_list (yb_of (ye_var 2 (pv 2))))) ya_nil) (len_cons len_nil))) (yb_of (ye_call (d_filled_changes F) c (by decide) (ya_cons (ye_var 5 (pv 5)) ya_nil) (len_cons len_nil))))) (yb_of (ye_bin bs_sub (yb_of (ye_var 6 (pv 6))) (yb_of ye_int))))))).pt
    (yss_one (ys_ret ye_bl)) yss_nil)
    (yss_cons (ys_set (i := 7) c.pc.nd rfl (by first | exact .inl rfl | exact .inr rfl) (yz_v (ye_call (d_law_take F) c (by decide) (ya_cons (ye_var 0 (pv 0)) (ya_cons (ye_var 6 (pv 6)) ya_nil)) (len_cons (len_cons len_nil)))))
    (yss_cons (ys_set (i := 8) c.pc.nd rfl (by first | exact .inl rfl | exact .inr rfl) (yz_v (ye_bin bs_add (yb_of (ye_bin bs_add (yb_of (ye_cut (yb_of (ye_var 2 (pv 2))) yp_none (yp_some (ye_var 7 (pv 7))))) (yb_of (ye_of_f (yf_lst (ya_cons (ye_call (d_law_pick F) c (by decide) (ya_cons (ye_var 0 (pv 0)) (ya_cons (ye_of_f (yf_lst (ya_cons ye_non (ya_cons ye_bl (ya_cons (ye_tup (ya_cons ye_int (ya_cons ye_int ya_nil))) (ya_cons (ye_tup (ya_cons ye_int (ya_cons ye_int ya_nil))) (ya_cons (ye_tup (ya_cons ye_int (ya_cons (ye_un us_neg (yb_of ye_int)) ya_nil))) (ya_cons ye_str (ya_cons (ye_of_f (yf_lst (ya_cons ye_int (ya_cons ye_int ya_nil)))) (ya_cons (ye_tup (ya_cons ye_int ya_nil)) ya_nil)))))))))) ya_nil)) (len_cons (len_cons len_nil))) ya_nil)))))) (yb_of (ye_cut (yb_of (ye_var 2 (pv 2))) (yp_some (ye_bin bs_add (yb_of (ye_var 7 (pv 7))) (yb_of ye_int))) yp_none)))))
    (yss_cons (ys_for (t := (gName 9)) c.po rfl (yi_seq (yc_e (ye_of_f (yf_lst (ya_cons (ye_var 8 (pv 8)) (ya_cons (ye_call (d_law_pick F) c (by decide) (ya_cons (ye_var 0 (pv 0)) (ya_cons (ye_of_f (yf_lst (ya_cons (ye_of_f (yf_lst ya_nil)) (ya_cons (ye_tup ya_nil) (ya_cons ye_non (ya_cons ye_int (ya_cons ye_str (ya_cons ye_dict0 (ya_cons (ye_bin bs_mul (yb_of (ye_of_f (yf_lst (ya_cons ye_int ya_nil)))) (yb_of ye_int)) (ya_cons (ye_dict (l := [((sC (.int 0)), (sC (.int 1)))]) (pps_cons ye_int ye_int pps_nil)) ya_nil)))))))))) ya_nil)) (len_cons (len_cons len_nil))) ya_nil)))))) (pg_name (i := 9) c.pc.nd rfl (by first | exact .inl rfl | exact .inr rfl)) gsm_name
    (yss_one (ys_if ((yw_or (yt_not (yt_val (ye_is F.m_isinstance (F.isC1) (.own _) (yb_of (ye_caughtE (j := 5) F.cau c (by decide) F.tb29 rfl F.tm29 F.tu29 (LamX.lamS_by (by first | decide +kernel | rfl)) rfl (fun _ _ _ _ _ => rfl) (fun A outer s H E f c' cl => (ye_call (d_changes F) cl (by decide) (ya_cons (ye_var 9 (pv 9)) ya_nil) (len_cons len_nil))))) (pe_cls F.g1)))) (yw_or1 (yt_not (yt_val (ye_is F.m_isinstance (F.isC1) (.own _) (yb_of (ye_caughtE (j := 5) F.cau c (by decide) F.tb29 rfl F.tm29 F.tu29 (LamX.lamS_by (by first | decide +kernel | rfl)) rfl (fun _ _ _ _ _ => rfl) (fun A outer s H E f c' cl => (ye_call (d_filled_changes F) cl (by decide) (ya_cons (ye_var 9 (pv 9)) ya_nil) (len_cons len_nil))))) (pe_cls F.g1))))))).pt
    (yss_one (ys_ret ye_bl)) yss_nil)))
    (yss_one (ys_ret ye_bl))))))))))))
/-! ### _law_begun, law -/
theorem s18 : FnScope ["script", "large", "cell"] ["script"] (defScope t18) := ⟨rfl, rfl, rfl, by decide +kernel, rfl, by decide +kernel, by decide +kernel⟩
theorem bg_ok (F : Fx P w K mg base ce co ct) : ∃ f fd, mg "_law_begun" = some (.ref f) ∧ (∃ st, Fun K "_law_begun" "_law_begun" st f fd) ∧ Binds K fd ["script"] [] ∧ FnOk P w K mg base (L2.CX P w) 1 f fd ["script"] (spBegun K ce) := by
  obtain ⟨cd, t⟩ := F.t18
  obtain ⟨f, fd, h1, h2, h3, h4⟩ := begun_ok (P := P) (w := w) (base := base) (ce := ce) (k := 0) t s18 rfl (fun f A outer s H E c => (ys_setLc (i := 1) (t := (gName 2)) (own := [("cell", 2)]) rfl c.pc.nd rfl rfl (sw_true rfl rfl rfl (by decide +kernel)) (yi_scr (pv 0)) (blkOk_by (by first | decide +kernel | rfl)) gsm_name (by decide)
      (fun _ _ _ _ _ => (pg_name (i := 2) c.blk.pc.nd rfl (by first | exact .inl rfl | exact .inr rfl))) (fun _ _ _ _ _ => (yts_one (yt_cmp bs_ge (yb_of (ye_callB cs_abs F.m_abs (yab_cons (yb_of (ye_var 2 (pv 2))) yab_nil))) (yb_of (ye_bin bs_pow (yb_of ye_int) (yb_of ye_int)))))) (fun _ _ _ _ _ => (ye_bin bs_sub (yb_of (ye_callB cs_abs F.m_abs (yab_cons (yb_of (ye_var 2 (pv 2))) yab_nil))) (yb_of (ye_bin bs_pow (yb_of ye_int) (yb_of ye_int)))))))
    (fun f A outer s H E c => ps_begun (pv 1) (pe_comp (t := (gName 2)) (own := [("cell", 2)]) rfl c.pc.nd (yi_scr (pv 0)) (blkOk_by (by first | decide +kernel | rfl)) gsm_name (by decide)
      (fun _ _ _ _ _ => (pg_name (i := 2) c.blk.pc.nd rfl (by first | exact .inl rfl | exact .inr rfl))) (fun _ _ _ _ _ => yts_nil) (fun _ _ _ _ _ => (ye_callB cs_abs F.m_abs (yab_cons (yb_of (ye_var 2 (pv 2))) yab_nil))))) (fun _ _ _ _ _ _ us hl => match us, hl with | [_], _ => rfl)
  exact ⟨f, fd, h1, ⟨_, h2⟩, h3, h4⟩
abbrev n30 : List Str := ["script", "draw", "lap", "told"]
theorem s30 : FnScope n30 ["script"] (defScope t30) := ⟨rfl, rfl, rfl, by decide +kernel, rfl, by decide +kernel, by decide +kernel⟩
noncomputable def b_law : SS :=
  (sSeq (sFor (sRange1 (sBin dAdd (sC (.int 8)) (sCall dMin (sCons (sCall dLen (sCons (sVar 0) sNil)) (sCons (sC (.int 8)) sNil))))) (gN 2) (sIfS (sNot (sCallF f_law_right (sCons (sVar 1) sNil))) (sRet (sC (.bl false))) sNext)) (sSeq (sSet 3 (zV (sL (sLst (sCons (sCallF f_changes (sCons (sL (sLst (sCons (sC (.int 0)) (sCons (sC (.int 0)) sNil)))) sNil)) (sCons (sCallF f_filled_changes (sCons (sL (sLst (sCons (sC (.int 0)) (sCons (sC (.int 0)) sNil)))) sNil)) (sCons (sCallF f_changes (sCons (sL (sLst (sCons (sC (.int 1)) (sCons (sC (.int 0)) (sCons (sUn dNeg (sC (.int 1))) (sCons (sC (.int 0)) (sCons (sC (.int 0)) (sCons (sC (.int 1)) sNil)))))))) sNil)) (sCons (sCallF f_filled_changes (sCons (sL (sLst (sCons (sC (.int 1)) (sCons (sC (.int 0)) (sCons (sUn dNeg (sC (.int 1))) (sCons (sC (.int 0)) (sCons (sC (.int 0)) (sCons (sC (.int 1)) sNil)))))))) sNil)) (sCons (sCallF f_changes (sCons (sL (sLst (sCons (sC (.int 3)) sNil))) sNil)) (sCons (sCallF f_filled_changes (sCons (sBin dMul (sL (sLst (sCons (sC (.int 0)) sNil))) (sC (.int 8))) sNil)) sNil)))))))))) (sRet (sCallF f_law_says (sCons (sVar 3) (sCons (sL (sLst (sCons (sBin dSub (sC (.int 0)) (sC (.int 1))) (sCons (sC (.int 1)) (sCons (sC (.int 2)) (sCons (sC (.int 4)) (sCons (sC (.int 0)) (sCons (sC (.int 7)) sNil)))))))) sNil))))))
/-- the state in which the law goes on behind its draws' begin -/
abbrev lawSt (ns : List Int) : List Sl := [.val (.scr ns), .val .draw, .un, .un]
theorem law_fn (F : Fx P w K mg base ce co ct) (plain : ∀ ns : List Int, ns.length ≤ 63 → ∃ dr', b_law (lawSt ns) (dr0 ns) = .ok (.rt (.bl true)) dr') : ∃ f fd, mg "law" = some (.ref f) ∧ Fun K "law" "law" t30 f fd ∧ FnOk P w K mg base (L2.CX P w) 9 f fd ["script"] (spLaw K ce) := by
  obtain ⟨cd, t⟩ := F.t30
  exact law_ok (k := 8) (x2 := "draw") (N := n30) (b := b_law) t s30 rfl (bg_ok F) (by decide) rfl (by first | exact .inl rfl | exact .inr rfl) (by first | exact .inl rfl | exact .inr (.inl rfl)) rfl (fun f A outer s H E c tk =>
   (yss_cons (ys_for (t := (gName 2)) c.po rfl (yi_range1 F.m_range (ye_bin bs_add (yb_of ye_int) (yb_of (ye_callB (cs_min c.pc) F.m_min (yab_cons (yb_of (ye_callB cs_len F.m_len (yab_cons (yb_of (ye_var 0 (pv 0))) yab_nil))) (yab_cons (yb_of ye_int) yab_nil)))))) (pg_name (i := 2) c.pc.nd rfl (by first | exact .inl rfl | exact .inr rfl)) gsm_name
    (yss_one (ys_if (yt_not (yt_val (ye_call (d_law_right F) c (by decide) (ya_cons (ye_var 1 (pv 1)) ya_nil) (len_cons len_nil))))
    (yss_one (ys_ret ye_bl)) yss_nil)))
    (yss_cons (ys_set (i := 3) c.pc.nd rfl (by first | exact .inl rfl | exact .inr rfl) (yz_v (ye_of_f (yf_lst (ya_cons (ye_call (d_changes F) c (by decide) (ya_cons (ye_of_f (yf_lst (ya_cons ye_int (ya_cons ye_int ya_nil)))) ya_nil) (len_cons len_nil)) (ya_cons (ye_call (d_filled_changes F) c (by decide) (ya_cons (ye_of_f (yf_lst (ya_cons ye_int (ya_cons ye_int ya_nil)))) ya_nil) (len_cons len_nil)) (ya_cons (ye_call (d_changes F) c (by decide) (ya_cons (ye_of_f (yf_lst (ya_cons ye_int (ya_cons ye_int (ya_cons (ye_un us_neg (yb_of ye_int)) (ya_cons ye_int (ya_cons ye_int (ya_cons ye_int ya_nil)))))))) ya_nil) (len_cons len_nil)) (ya_cons (ye_call (d_filled_changes F) c (by decide) (ya_cons (ye_of_f (yf_lst (ya_cons ye_int (ya_cons ye_int (ya_cons (ye_un us_neg (yb_of ye_int)) (ya_cons ye_int (ya_cons ye_int (ya_cons ye_int ya_nil)))))))) ya_nil) (len_cons len_nil)) (ya_cons (ye_call (d_changes F) c (by decide) (ya_cons (ye_of_f (yf_lst (ya_cons ye_int ya_nil))) ya_nil) (len_cons len_nil)) (ya_cons (ye_call (d_filled_changes F) c (by decide) (ya_cons (ye_bin bs_mul (yb_of (ye_of_f (yf_lst (ya_cons ye_int ya_nil)))) (yb_of ye_int)) ya_nil) (len_cons len_nil)) ya_nil))))))))))
    (yss_one (ys_ret (ye_call (d_law_says F) c (by decide) (ya_cons (ye_var 3 (pv 3)) (ya_cons (ye_of_f (yf_lst (ya_cons (ye_bin bs_sub (yb_of ye_int) (yb_of ye_int)) (ya_cons ye_int (ya_cons ye_int (ya_cons ye_int (ya_cons ye_int (ya_cons ye_int ya_nil)))))))) ya_nil)) (len_cons (len_cons len_nil)))))))) plain
end
theorem law_end {l : PySem.W.OpenLaw} {w : World} {K : PySem.W.Frag} {h : Heap} {mg : Str → Option Value} {fa : Addr} (X : K.In h) (G : h.Ns mainGlobals mg) (hmg : mg "law" = some (.ref fa)) (plain : ∀ ns : List Int, ns.length ≤ 63 → ∃ dr', b_law (lawSt ns) (dr0 ns) = .ok (.rt (.bl true)) dr')
    {f5 : Addr} {oc5 kV5 dc5 pm5 ct5 cd5 : Value} {od5 an5 : Option Addr} {sl5 : Array (Option Value)}
    {f6 : Addr} {oc6 kV6 dc6 pm6 ct6 cd6 : Value} {od6 an6 : Option Addr} {sl6 : Array (Option Value)}
    {f7 : Addr} {oc7 kV7 dc7 pm7 ct7 cd7 : Value} {od7 an7 : Option Addr} {sl7 : Array (Option Value)}
    {f8 : Addr} {oc8 kV8 dc8 pm8 ct8 cd8 : Value} {od8 an8 : Option Addr} {sl8 : Array (Option Value)}
    {f9 : Addr} {oc9 kV9 dc9 pm9 ct9 cd9 : Value} {od9 an9 : Option Addr} {sl9 : Array (Option Value)}
    {f12 : Addr} {oc12 kV12 dc12 pm12 ct12 cd12 : Value} {od12 an12 : Option Addr} {sl12 : Array (Option Value)}
    {f13 : Addr} {oc13 kV13 dc13 pm13 ct13 cd13 : Value} {od13 an13 : Option Addr} {sl13 : Array (Option Value)}
    {f14 : Addr} {oc14 kV14 dc14 pm14 ct14 cd14 : Value} {od14 an14 : Option Addr} {sl14 : Array (Option Value)}
    {f15 : Addr} {oc15 kV15 dc15 pm15 ct15 cd15 : Value} {od15 an15 : Option Addr} {sl15 : Array (Option Value)}
    {f16 : Addr} {oc16 kV16 dc16 pm16 ct16 cd16 : Value} {od16 an16 : Option Addr} {sl16 : Array (Option Value)}
    {f18 : Addr} {oc18 kV18 dc18 pm18 ct18 cd18 : Value} {od18 an18 : Option Addr} {sl18 : Array (Option Value)}
    {f19 : Addr} {oc19 kV19 dc19 pm19 ct19 cd19 : Value} {od19 an19 : Option Addr} {sl19 : Array (Option Value)}
    {f20 : Addr} {oc20 kV20 dc20 pm20 ct20 cd20 : Value} {od20 an20 : Option Addr} {sl20 : Array (Option Value)}
    {f21 : Addr} {oc21 kV21 dc21 pm21 ct21 cd21 : Value} {od21 an21 : Option Addr} {sl21 : Array (Option Value)}
    {f22 : Addr} {oc22 kV22 dc22 pm22 ct22 cd22 : Value} {od22 an22 : Option Addr} {sl22 : Array (Option Value)}
    {f23 : Addr} {oc23 kV23 dc23 pm23 ct23 cd23 : Value} {od23 an23 : Option Addr} {sl23 : Array (Option Value)}
    {f24 : Addr} {oc24 kV24 dc24 pm24 ct24 cd24 : Value} {od24 an24 : Option Addr} {sl24 : Array (Option Value)}
    {f25 : Addr} {oc25 kV25 dc25 pm25 ct25 cd25 : Value} {od25 an25 : Option Addr} {sl25 : Array (Option Value)}
    {f26 : Addr} {oc26 kV26 dc26 pm26 ct26 cd26 : Value} {od26 an26 : Option Addr} {sl26 : Array (Option Value)}
    {f27 : Addr} {oc27 kV27 dc27 pm27 ct27 cd27 : Value} {od27 an27 : Option Addr} {sl27 : Array (Option Value)}
    {f28 : Addr} {oc28 kV28 dc28 pm28 ct28 cd28 : Value} {od28 an28 : Option Addr} {sl28 : Array (Option Value)}
    {f29 c29 : Addr} {oc29 kV29 dc29 pm29 ct29 : Value} {od29 an29 : Option Addr} {sl29 : Array (Option Value)}
    {f30 : Addr} {oc30 kV30 dc30 pm30 ct30 cd30 : Value} {od30 an30 : Option Addr} {sl30 : Array (Option Value)}
    {T29 : Addr}
    {C0 : Addr}
    {C1 : Addr}
    {t_MOST_WIDTH : Tok}
    (a5 : PySem.W.nsIn K mainGlobals "is_number" = some (some (.ref f5)))
    (l5 : K.lookup f5 = some ⟨oc5, od5, .func (PySem.W.fnOf "is_number" "is_number" (defArgs (topS 5)) (defBody (topS 5)) (defScope (topS 5)) .none kV5 dc5 pm5 an5 cd5 ct5), sl5⟩)
    (o5 : PySem.W.codeIn K cd5 "is_number" = true)
    (k5 : PySem.W.keepIn K (.ref f5) = true)
    (a6 : PySem.W.nsIn K mainGlobals "is_ratio" = some (some (.ref f6)))
    (l6 : K.lookup f6 = some ⟨oc6, od6, .func (PySem.W.fnOf "is_ratio" "is_ratio" (defArgs (topS 6)) (defBody (topS 6)) (defScope (topS 6)) .none kV6 dc6 pm6 an6 cd6 ct6), sl6⟩)
    (o6 : PySem.W.codeIn K cd6 "is_ratio" = true)
    (k6 : PySem.W.keepIn K (.ref f6) = true)
    (a7 : PySem.W.nsIn K mainGlobals "is_free" = some (some (.ref f7)))
    (l7 : K.lookup f7 = some ⟨oc7, od7, .func (PySem.W.fnOf "is_free" "is_free" (defArgs (topS 7)) (defBody (topS 7)) (defScope (topS 7)) .none kV7 dc7 pm7 an7 cd7 ct7), sl7⟩)
    (o7 : PySem.W.codeIn K cd7 "is_free" = true)
    (k7 : PySem.W.keepIn K (.ref f7) = true)
    (a8 : PySem.W.nsIn K mainGlobals "as_ratio" = some (some (.ref f8)))
    (l8 : K.lookup f8 = some ⟨oc8, od8, .func (PySem.W.fnOf "as_ratio" "as_ratio" (defArgs (topS 8)) (defBody (topS 8)) (defScope (topS 8)) .none kV8 dc8 pm8 an8 cd8 ct8), sl8⟩)
    (o8 : PySem.W.codeIn K cd8 "as_ratio" = true)
    (k8 : PySem.W.keepIn K (.ref f8) = true)
    (a9 : PySem.W.nsIn K mainGlobals "sign_of" = some (some (.ref f9)))
    (l9 : K.lookup f9 = some ⟨oc9, od9, .func (PySem.W.fnOf "sign_of" "sign_of" (defArgs (topS 9)) (defBody (topS 9)) (defScope (topS 9)) .none kV9 dc9 pm9 an9 cd9 ct9), sl9⟩)
    (o9 : PySem.W.codeIn K cd9 "sign_of" = true)
    (k9 : PySem.W.keepIn K (.ref f9) = true)
    (a12 : PySem.W.nsIn K mainGlobals "need_any_row" = some (some (.ref f12)))
    (l12 : K.lookup f12 = some ⟨oc12, od12, .func (PySem.W.fnOf "need_any_row" "need_any_row" (defArgs (topS 12)) (defBody (topS 12)) (defScope (topS 12)) .none kV12 dc12 pm12 an12 cd12 ct12), sl12⟩)
    (o12 : PySem.W.codeIn K cd12 "need_any_row" = true)
    (k12 : PySem.W.keepIn K (.ref f12) = true)
    (a13 : PySem.W.nsIn K mainGlobals "changes_in" = some (some (.ref f13)))
    (l13 : K.lookup f13 = some ⟨oc13, od13, .func (PySem.W.fnOf "changes_in" "changes_in" (defArgs (topS 13)) (defBody (topS 13)) (defScope (topS 13)) .none kV13 dc13 pm13 an13 cd13 ct13), sl13⟩)
    (o13 : PySem.W.codeIn K cd13 "changes_in" = true)
    (k13 : PySem.W.keepIn K (.ref f13) = true)
    (a14 : PySem.W.nsIn K mainGlobals "filled_in" = some (some (.ref f14)))
    (l14 : K.lookup f14 = some ⟨oc14, od14, .func (PySem.W.fnOf "filled_in" "filled_in" (defArgs (topS 14)) (defBody (topS 14)) (defScope (topS 14)) .none kV14 dc14 pm14 an14 cd14 ct14), sl14⟩)
    (o14 : PySem.W.codeIn K cd14 "filled_in" = true)
    (k14 : PySem.W.keepIn K (.ref f14) = true)
    (a15 : PySem.W.nsIn K mainGlobals "changes" = some (some (.ref f15)))
    (l15 : K.lookup f15 = some ⟨oc15, od15, .func (PySem.W.fnOf "changes" "changes" (defArgs (topS 15)) (defBody (topS 15)) (defScope (topS 15)) .none kV15 dc15 pm15 an15 cd15 ct15), sl15⟩)
    (o15 : PySem.W.codeIn K cd15 "changes" = true)
    (k15 : PySem.W.keepIn K (.ref f15) = true)
    (a16 : PySem.W.nsIn K mainGlobals "filled_changes" = some (some (.ref f16)))
    (l16 : K.lookup f16 = some ⟨oc16, od16, .func (PySem.W.fnOf "filled_changes" "filled_changes" (defArgs (topS 16)) (defBody (topS 16)) (defScope (topS 16)) .none kV16 dc16 pm16 an16 cd16 ct16), sl16⟩)
    (o16 : PySem.W.codeIn K cd16 "filled_changes" = true)
    (k16 : PySem.W.keepIn K (.ref f16) = true)
    (a18 : PySem.W.nsIn K mainGlobals "_law_begun" = some (some (.ref f18)))
    (l18 : K.lookup f18 = some ⟨oc18, od18, .func (PySem.W.fnOf "_law_begun" "_law_begun" (defArgs (topS 18)) (defBody (topS 18)) (defScope (topS 18)) .none kV18 dc18 pm18 an18 cd18 ct18), sl18⟩)
    (o18 : PySem.W.codeIn K cd18 "_law_begun" = true)
    (k18 : PySem.W.keepIn K (.ref f18) = true)
    (a19 : PySem.W.nsIn K mainGlobals "_law_mixed" = some (some (.ref f19)))
    (l19 : K.lookup f19 = some ⟨oc19, od19, .func (PySem.W.fnOf "_law_mixed" "_law_mixed" (defArgs (topS 19)) (defBody (topS 19)) (defScope (topS 19)) .none kV19 dc19 pm19 an19 cd19 ct19), sl19⟩)
    (o19 : PySem.W.codeIn K cd19 "_law_mixed" = true)
    (k19 : PySem.W.keepIn K (.ref f19) = true)
    (a20 : PySem.W.nsIn K mainGlobals "_law_take" = some (some (.ref f20)))
    (l20 : K.lookup f20 = some ⟨oc20, od20, .func (PySem.W.fnOf "_law_take" "_law_take" (defArgs (topS 20)) (defBody (topS 20)) (defScope (topS 20)) .none kV20 dc20 pm20 an20 cd20 ct20), sl20⟩)
    (o20 : PySem.W.codeIn K cd20 "_law_take" = true)
    (k20 : PySem.W.keepIn K (.ref f20) = true)
    (a21 : PySem.W.nsIn K mainGlobals "_law_pick" = some (some (.ref f21)))
    (l21 : K.lookup f21 = some ⟨oc21, od21, .func (PySem.W.fnOf "_law_pick" "_law_pick" (defArgs (topS 21)) (defBody (topS 21)) (defScope (topS 21)) .none kV21 dc21 pm21 an21 cd21 ct21), sl21⟩)
    (o21 : PySem.W.codeIn K cd21 "_law_pick" = true)
    (k21 : PySem.W.keepIn K (.ref f21) = true)
    (a22 : PySem.W.nsIn K mainGlobals "_law_caught" = some (some (.ref f22)))
    (l22 : K.lookup f22 = some ⟨oc22, od22, .func (PySem.W.fnOf "_law_caught" "_law_caught" (defArgs (topS 22)) (defBody (topS 22)) (defScope (topS 22)) .none kV22 dc22 pm22 an22 cd22 ct22), sl22⟩)
    (o22 : PySem.W.codeIn K cd22 "_law_caught" = true)
    (k22 : PySem.W.keepIn K (.ref f22) = true)
    (a23 : PySem.W.nsIn K mainGlobals "_law_kinds" = some (some (.ref f23)))
    (l23 : K.lookup f23 = some ⟨oc23, od23, .func (PySem.W.fnOf "_law_kinds" "_law_kinds" (defArgs (topS 23)) (defBody (topS 23)) (defScope (topS 23)) .none kV23 dc23 pm23 an23 cd23 ct23), sl23⟩)
    (o23 : PySem.W.codeIn K cd23 "_law_kinds" = true)
    (k23 : PySem.W.keepIn K (.ref f23) = true)
    (a24 : PySem.W.nsIn K mainGlobals "_law_says" = some (some (.ref f24)))
    (l24 : K.lookup f24 = some ⟨oc24, od24, .func (PySem.W.fnOf "_law_says" "_law_says" (defArgs (topS 24)) (defBody (topS 24)) (defScope (topS 24)) .none kV24 dc24 pm24 an24 cd24 ct24), sl24⟩)
    (o24 : PySem.W.codeIn K cd24 "_law_says" = true)
    (k24 : PySem.W.keepIn K (.ref f24) = true)
    (a25 : PySem.W.nsIn K mainGlobals "_law_ratio" = some (some (.ref f25)))
    (l25 : K.lookup f25 = some ⟨oc25, od25, .func (PySem.W.fnOf "_law_ratio" "_law_ratio" (defArgs (topS 25)) (defBody (topS 25)) (defScope (topS 25)) .none kV25 dc25 pm25 an25 cd25 ct25), sl25⟩)
    (o25 : PySem.W.codeIn K cd25 "_law_ratio" = true)
    (k25 : PySem.W.keepIn K (.ref f25) = true)
    (a26 : PySem.W.nsIn K mainGlobals "_law_signed" = some (some (.ref f26)))
    (l26 : K.lookup f26 = some ⟨oc26, od26, .func (PySem.W.fnOf "_law_signed" "_law_signed" (defArgs (topS 26)) (defBody (topS 26)) (defScope (topS 26)) .none kV26 dc26 pm26 an26 cd26 ct26), sl26⟩)
    (o26 : PySem.W.codeIn K cd26 "_law_signed" = true)
    (k26 : PySem.W.keepIn K (.ref f26) = true)
    (a27 : PySem.W.nsIn K mainGlobals "_law_changes" = some (some (.ref f27)))
    (l27 : K.lookup f27 = some ⟨oc27, od27, .func (PySem.W.fnOf "_law_changes" "_law_changes" (defArgs (topS 27)) (defBody (topS 27)) (defScope (topS 27)) .none kV27 dc27 pm27 an27 cd27 ct27), sl27⟩)
    (o27 : PySem.W.codeIn K cd27 "_law_changes" = true)
    (k27 : PySem.W.keepIn K (.ref f27) = true)
    (a28 : PySem.W.nsIn K mainGlobals "_law_filled" = some (some (.ref f28)))
    (l28 : K.lookup f28 = some ⟨oc28, od28, .func (PySem.W.fnOf "_law_filled" "_law_filled" (defArgs (topS 28)) (defBody (topS 28)) (defScope (topS 28)) .none kV28 dc28 pm28 an28 cd28 ct28), sl28⟩)
    (o28 : PySem.W.codeIn K cd28 "_law_filled" = true)
    (k28 : PySem.W.keepIn K (.ref f28) = true)
    (a29 : PySem.W.nsIn K mainGlobals "_law_right" = some (some (.ref f29)))
    (l29 : K.lookup f29 = some ⟨oc29, od29, .func (PySem.W.fnOf "_law_right" "_law_right" (defArgs (topS 29)) (defBody (topS 29)) (defScope (topS 29)) .none kV29 dc29 pm29 an29 (.ref c29) ct29), sl29⟩)
    (o29 : PySem.W.codeIn K (.ref c29) "_law_right" = true)
    (k29 : PySem.W.keepIn K (.ref f29) = true)
    (a30 : PySem.W.nsIn K mainGlobals "law" = some (some (.ref f30)))
    (l30 : K.lookup f30 = some ⟨oc30, od30, .func (PySem.W.fnOf "law" "law" (defArgs (topS 30)) (defBody (topS 30)) (defScope (topS 30)) .none kV30 dc30 pm30 an30 cd30 ct30), sl30⟩)
    (o30 : PySem.W.codeIn K cd30 "law" = true)
    (k30 : PySem.W.keepIn K (.ref f30) = true)
    (y29 : PySem.W.tabIn K "_law_right" = some (c29, T29))
    (n29 : K.lookup T29 = none)
    (h29 : PySem.W.codeHdIn K c29 T29 = true)
    (m29 : h.get? T29 = some (PySem.W.tabObj #[]))
    (g0 : PySem.W.nsIn K mainGlobals "PlaneError" = some (some (.ref C0)))
    (e0_1 : PySem.W.isClsIn K C0 = true)
    (e0_2 : PySem.W.typeIn K (.ref C0) = some (.type "type"))
    (e0_3 : PySem.W.findIn K (.ref C0) "__getattribute__" = some (some (.builtin "BaseException.__getattribute__")))
    (e0_4 : PySem.W.findIn K (.ref C0) "__getattr__" = some none)
    (e0_5 : PySem.W.subIn K (.ref C0) (.type "BaseException") = some true)
    (e0_6 : PySem.W.hasDictIn K C0 = true)
    (e0_7 : PySem.W.findIn K (.ref C0) "__class__" = some (some (.builtin "object.__class__")))
    (e0_10 : PySem.W.mroIn K C0 (.type "object") = some true)
    (e0_11 : PySem.W.excIn K C0 [.type "ValueError", .type "Exception", .type "BaseException", .type "object"] "ValueError.__new__" = true)
    (e0_12 : PySem.W.keepIn K (.ref C0) = true)
    (g1 : PySem.W.nsIn K mainGlobals "BadRow" = some (some (.ref C1)))
    (e1_1 : PySem.W.isClsIn K C1 = true)
    (e1_2 : PySem.W.typeIn K (.ref C1) = some (.type "type"))
    (e1_3 : PySem.W.findIn K (.ref C1) "__getattribute__" = some (some (.builtin "BaseException.__getattribute__")))
    (e1_4 : PySem.W.findIn K (.ref C1) "__getattr__" = some none)
    (e1_5 : PySem.W.subIn K (.ref C1) (.type "BaseException") = some true)
    (e1_6 : PySem.W.hasDictIn K C1 = true)
    (e1_7 : PySem.W.findIn K (.ref C1) "__class__" = some (some (.builtin "object.__class__")))
    (e1_10 : PySem.W.mroIn K C1 (.type "object") = some true)
    (e1_11 : PySem.W.excIn K C1 [.type "ValueError", .type "Exception", .type "BaseException", .type "object"] "ValueError.__new__" = true)
    (e1_12 : PySem.W.keepIn K (.ref C1) = true)
    (e_8 : PySem.W.specialIn K (.builtin "object.__class__") "__get__" = some (some (.builtin "getset_descriptor.__get__")))
    (e_9 : PySem.W.takesIn K (.builtin "object.__class__") = some true)
    (s0_0 : PySem.W.subIn K (.ref C0) (.ref C0) = some true)
    (s0_1 : PySem.W.subIn K (.ref C0) (.ref C1) = some false)
    (r0_1 : C0 ≠ C1)
    (s1_0 : PySem.W.subIn K (.ref C1) (.ref C0) = some true)
    (s1_1 : PySem.W.subIn K (.ref C1) (.ref C1) = some true)
    (b_abs : PySem.W.nsIn K mainGlobals "abs" = some none)
    (b_all : PySem.W.nsIn K mainGlobals "all" = some none)
    (b_bool : PySem.W.nsIn K mainGlobals "bool" = some none)
    (b_dict : PySem.W.nsIn K mainGlobals "dict" = some none)
    (b_enumerate : PySem.W.nsIn K mainGlobals "enumerate" = some none)
    (b_int : PySem.W.nsIn K mainGlobals "int" = some none)
    (b_isinstance : PySem.W.nsIn K mainGlobals "isinstance" = some none)
    (b_len : PySem.W.nsIn K mainGlobals "len" = some none)
    (b_list : PySem.W.nsIn K mainGlobals "list" = some none)
    (b_max : PySem.W.nsIn K mainGlobals "max" = some none)
    (b_min : PySem.W.nsIn K mainGlobals "min" = some none)
    (b_range : PySem.W.nsIn K mainGlobals "range" = some none)
    (b_sum : PySem.W.nsIn K mainGlobals "sum" = some none)
    (b_tuple : PySem.W.nsIn K mainGlobals "tuple" = some none)
    (b_zip : PySem.W.nsIn K mainGlobals "zip" = some none)
    (b_gcd : PySem.W.nsIn K mainGlobals "gcd" = some (some (.builtin "math.gcd")))
    (q_MOST_WIDTH : PySem.W.nsIn K mainGlobals "MOST_WIDTH" = some (some (.int 8 t_MOST_WIDTH))) :
    LamX.LawAtS l w K (L2.CX l.prog w) 9 63 "script" mg fa h := by
  have E0 : ErC K C0 := erC_mk e0_1 e0_2 e0_3 e0_4 e0_5 e0_6 e0_7 e_8 e_9 e0_10 e0_11 e0_12
  have E1 : ErC K C1 := erC_mk e1_1 e1_2 e1_3 e1_4 e1_5 e1_6 e1_7 e_8 e_9 e1_10 e1_11 e1_12
  let ce : Ce := ⟨fun i => [C0, C1].getD i 0, [(T29, (("_law_right" ++ ".<locals>." : Str) ++ "<lambda>"))]⟩
  have xlaw : Tx K mg "law" "law" (topS 30) _ := tx_mk X G a30 l30 o30 k30
  refine lawAt (ce := ce) (cs := [(c29, T29)]) hmg rfl ⟨_, xlaw⟩ (fun p hp => by
      simp only [List.mem_cons, List.not_mem_nil, or_false] at hp
      rcases hp with rfl
      · exact ⟨PySem.W.codeHd_of_K X h29, m29⟩)
    (fun p hp => by
      simp only [List.mem_cons, List.not_mem_nil, or_false] at hp
      rcases hp with rfl
      · exact n29)
    (fun _ _ _ _ _ _ us hl => match us, hl with | [_], _ => rfl) fun base KB GB TB => ?_
  refine law_fn (ce := ce) (co := (fun i => if i = 29 then c29 else 0)) (ct := (fun i => if i = 29 then T29 else 0)) ?_ plain
  exact {
    m_abs := PySem.W.mg_none_of X G b_abs
    m_all := PySem.W.mg_none_of X G b_all
    m_bool := PySem.W.mg_none_of X G b_bool
    m_dict := PySem.W.mg_none_of X G b_dict
    m_enumerate := PySem.W.mg_none_of X G b_enumerate
    m_int := PySem.W.mg_none_of X G b_int
    m_isinstance := PySem.W.mg_none_of X G b_isinstance
    m_len := PySem.W.mg_none_of X G b_len
    m_list := PySem.W.mg_none_of X G b_list
    m_max := PySem.W.mg_none_of X G b_max
    m_min := PySem.W.mg_none_of X G b_min
    m_range := PySem.W.mg_none_of X G b_range
    m_sum := PySem.W.mg_none_of X G b_sum
    m_tuple := PySem.W.mg_none_of X G b_tuple
    m_zip := PySem.W.mg_none_of X G b_zip
    m_gcd := PySem.W.mg_of X G b_gcd
    g0 := PySem.W.mg_of X G g0
    e0 := E0
    isC0 := isC_own (ce := ce) (n := 2) (c := 0) E0 (fun m hm => match m, hm with | 0, _ => ⟨E0, s0_0, fun _ => rfl⟩ | 1, _ => ⟨E1, s1_0, fun _ => rfl⟩)
    g1 := PySem.W.mg_of X G g1
    e1 := E1
    isC1 := isC_own (ce := ce) (n := 2) (c := 1) E1 (fun m hm => match m, hm with | 0, _ => ⟨E0, s0_1, fun h => absurd h r0_1⟩ | 1, _ => ⟨E1, s1_1, fun _ => rfl⟩)
    c_MOST_WIDTH := ⟨_, PySem.W.mg_of X G q_MOST_WIDTH⟩
    t5 := ⟨_, tx_mk X G a5 l5 o5 k5⟩
    t6 := ⟨_, tx_mk X G a6 l6 o6 k6⟩
    t7 := ⟨_, tx_mk X G a7 l7 o7 k7⟩
    t8 := ⟨_, tx_mk X G a8 l8 o8 k8⟩
    t9 := ⟨_, tx_mk X G a9 l9 o9 k9⟩
    t12 := ⟨_, tx_mk X G a12 l12 o12 k12⟩
    t13 := ⟨_, tx_mk X G a13 l13 o13 k13⟩
    t14 := ⟨_, tx_mk X G a14 l14 o14 k14⟩
    t15 := ⟨_, tx_mk X G a15 l15 o15 k15⟩
    t16 := ⟨_, tx_mk X G a16 l16 o16 k16⟩
    t18 := ⟨_, tx_mk X G a18 l18 o18 k18⟩
    t19 := ⟨_, tx_mk X G a19 l19 o19 k19⟩
    t20 := ⟨_, tx_mk X G a20 l20 o20 k20⟩
    t21 := ⟨_, tx_mk X G a21 l21 o21 k21⟩
    t22 := ⟨_, tx_mk X G a22 l22 o22 k22⟩
    t23 := ⟨_, tx_mk X G a23 l23 o23 k23⟩
    t24 := ⟨_, tx_mk X G a24 l24 o24 k24⟩
    t25 := ⟨_, tx_mk X G a25 l25 o25 k25⟩
    t26 := ⟨_, tx_mk X G a26 l26 o26 k26⟩
    t27 := ⟨_, tx_mk X G a27 l27 o27 k27⟩
    t28 := ⟨_, tx_mk X G a28 l28 o28 k28⟩
    t29 := tx_mk X G a29 l29 o29 k29
    tb29 := TB (c29, T29) (by simp)
    tm29 := (by simp [ce])
    tu29 := (by
      intro p hp e
      simp only [ce, List.mem_cons, List.not_mem_nil, or_false] at hp
      rcases hp with rfl
      · rfl)
    t30 := ⟨_, tx_mk X G a30 l30 o30 k30⟩
    cau := ⟨_, tx_mk X G a22 l22 o22 k22, ⟨rfl, rfl, rfl, by decide +kernel, rfl, by decide +kernel, by decide +kernel⟩, ⟨_, _, _, _, _, _, _, _, _, _, _, _, _, _, _, rfl⟩, .inl rfl, rfl, rfl, rfl, fun _ _ _ _ _ _ us hl => match us, hl with | [_], _ => rfl, ⟨C0, PySem.W.mg_of X G g0, fun c h => match c, (of_decide_eq_true h : c < 2) with | 0, _ => exm_mk E0 s0_0 | 1, _ => exm_mk E0 s1_0⟩⟩
  }
end TP

set_option Elab.async false
set_option linter.all false
set_option maxRecDepth 100000
set_option maxHeartbeats 4000000
namespace TP
open PySem L2
/-! ### small things, of every law -/
theorem sz_le {n : Nat} (h : n ≤ 1000) : n ≤ sizeLine := by rw [sizeLine_eq]; omega
theorem sz0 : (0 : Nat) ≤ sizeLine := by decide
theorem sz1 : (1 : Nat) ≤ sizeLine := by decide
theorem sz2 : (2 : Nat) ≤ sizeLine := by decide
theorem sz3 : (3 : Nat) ≤ sizeLine := by decide
theorem sz4 : (4 : Nat) ≤ sizeLine := by decide
theorem dLt_int (i j : Int) : dLt (.int i) (.int j) = some (.bl (decide (i < j))) := rfl
theorem dGt_int (i j : Int) : dGt (.int i) (.int j) = some (.bl (decide (j < i))) := rfl
theorem dLe_int (i j : Int) : dLe (.int i) (.int j) = some (.bl (decide (i ≤ j))) := rfl
theorem dNeg_int (i : Int) : dNeg (.int i) = some (.int (-i)) := rfl
theorem dGcd_int (i j : Int) : dGcd [.int i, .int j] = some (.int (Int.gcd i j)) := rfl
theorem dAdd_int (i j : Int) : dAdd (.int i) (.int j) = some (.int (i + j)) := rfl
theorem dSub_int (i j : Int) : dSub (.int i) (.int j) = some (.int (i - j)) := rfl
theorem dNe_int (i j : Int) : dNe (.int i) (.int j) = some (.bl (!decide (i = j))) := by
  show (if dOk 60 (.int i) = true ∧ dOk 60 (.int j) = true then some (D.bl (!dEqv (.int i) (.int j))) else none) = _
  rw [if_pos ⟨rfl, rfl⟩]
  congr 2
theorem dNe_bl (i j : Bool) : dNe (.bl i) (.bl j) = some (.bl (i != j)) := by
  show (if dOk 60 (.bl i) = true ∧ dOk 60 (.bl j) = true then some (D.bl (!dEqv (.bl i) (.bl j))) else none) = _
  rw [if_pos ⟨rfl, rfl⟩]
  simp only [dEqv]
  rfl
theorem dAll_bls : ∀ bs : List Bool, dAll [.lst (bs.map D.bl)] = some (.bl (bs.all id)) := fun bs => by
  have e : (bs.map D.bl).mapM asBl = some bs := by
    induction bs with
    | nil => rfl
    | cons b bs ih => rw [List.map_cons, List.mapM_cons, ih]; rfl
  show ((bs.map D.bl).mapM asBl).map _ = _
  rw [e]
  rfl
theorem dMax_ints {is : List Int} (h : is ≠ []) : dMax [.lst (is.map D.int)] = some (.int (maxL is)) := by
  have e : (is.map D.int).mapM asInt = some is := by
    clear h
    induction is with
    | nil => rfl
    | cons b bs ih => rw [List.map_cons, List.mapM_cons, ih]; rfl
  cases is with
  | nil => exact absurd rfl h
  | cons x xs =>
    show (match (D.int x :: xs.map D.int).mapM asInt with | some (x :: xs) => _ | _ => none) = _
    rw [show (D.int x :: xs.map D.int).mapM asInt = some (x :: xs) from e]
theorem dLen_tup (l : List D) : dLen [.tup l] = some (.int l.length) := rfl
theorem dLen_lst (l : List D) : dLen [.lst l] = some (.int l.length) := rfl
abbrev pr (a b : Int) : D := .tup [.int a, .int b]
abbrev R := Int × Int
abbrev prR (r : R) : D := pr r.1 r.2
theorem ix0 (a b : Int) : dIx (pr a b) (.int 0) = some (.int a) := rfl
theorem ix1 (a b : Int) : dIx (pr a b) (.int 1) = some (.int b) := rfl
theorem log_lt {x : Nat} (h : x < 1000) : x.log2 < 9000 := by
  by_cases h0 : x = 0
  · subst h0; decide
  · have := (Nat.log2_lt h0).mpr (show x < 2 ^ 10 by omega)
    omega
theorem f_take (dr : Dr) {m : Int} (h0 : 0 < m) (h : m < 1000) : ∃ r dr', f_law_take [.draw, .int m] dr = .ok (.int r) dr' ∧ 0 ≤ r ∧ r < m := by
  have e1 : f_law_take = fD 3 (sTake (fD 6 sMixed)) := by
    rw [e_law_take]
    show fD 3 (sTake f_law_mixed) = _
    rw [e_law_mixed]
    rfl
  rw [e1]
  exact take_ok dr h0 (log_lt (by omega))
theorem pick_ok (dr : Dr) {l : List D} (h : l ≠ []) (hl : l.length < 1000) : ∃ d dr', f_law_pick [.draw, .lst l] dr = .ok d dr' ∧ d ∈ l := by
  have hp : 0 < l.length := List.length_pos_iff.mpr h
  obtain ⟨r, dr', e, k0, k1⟩ := f_take dr (m := (l.length : Int)) (by omega) (by omega)
  obtain ⟨n, rfl⟩ : ∃ n : Nat, r = n := ⟨r.toNat, by omega⟩
  have hr : n < l.length := by omega
  refine ⟨l[n], dr', ?_, List.getElem_mem hr⟩
  rw [e_law_pick]
  refine fD_rt (sRet_ok ?_)
  exact sBin_ok (x := .lst l) (y := .int n) rfl ((call2 (F := f_law_take) (x := .draw) (y := .int l.length) (dr1 := dr) (dr2 := dr) rfl rfl).trans e) (dIx_lst hr)
theorem says_ok' (dr : Dr) {d : D} (h : dOk 59 d = true) (hs : szD d < 1000000) : f_law_says [d, d] dr = .ok (.bl true) dr := by
  rw [e_law_says]
  show fD 2 (sSays f_law_kinds) [d, d] dr = _
  rw [e_law_kinds]
  exact says_ok _ dr h hs
theorem says_step {A B : ES} {ρ : List Sl} {dr : Dr} {d : D} (ha : A ρ dr = .ok d dr) (hb : B ρ dr = .ok d dr) (h : dOk 59 d = true) (hs : szD d < 1000000) :
    sIfS (sNot (sCallF f_law_says (sCons A (sCons B sNil)))) (sRet (sC (.bl false))) sNext ρ dr = .ok (.nx ρ) dr := by
  have k := (call2 (F := f_law_says) ha hb).trans (says_ok' dr h hs)
  simp [sIfS, sT, sNot, sUn, dNot, k, sNext]
/-! ### ratios and numbers of whatever size -/
inductive Fr : D → R → Prop where
  | int (a : Int) : Fr (.int a) (a, 1)
  | pr {a b : Int} (h0 : 0 < b) (h1 : Int.gcd a b = 1) : Fr (pr a b) (a, b)
theorem is_number_int (a : Int) (dr : Dr) : f_is_number [.int a] dr = .ok (.bl true) dr := by
  rw [e_is_number]
  refine fD_rt ?_
  simp [b_is_number, sRet, sAnd, sNot, sUn, dNot, sIs, isB, sVar]
theorem is_num (d : D) (b : Bool) (h : (isB .int d = some true ∧ isB .bool d = some (!b)) ∨ (isB .int d = some false ∧ b = false)) (dr : Dr) : f_is_number [d] dr = .ok (.bl b) dr := by
  rw [e_is_number]
  refine fD_rt ?_
  rcases h with ⟨h1, h2⟩ | ⟨h1, rfl⟩
  · simp [b_is_number, sRet, sAnd, sNot, sUn, dNot, sIs, sVar, h1, h2]
  · simp [b_is_number, sRet, sAnd, sNot, sUn, dNot, sIs, sVar, h1]
theorem is_number_tup (l : List D) (dr : Dr) : f_is_number [.tup l] dr = .ok (.bl false) dr := is_num _ _ (.inr ⟨rfl, rfl⟩) dr
theorem dAll_2 (a b : Bool) : dAll [.lst [.bl a, .bl b]] = some (.bl (a && b)) := (dAll_bls [a, b]).trans (by simp)
theorem is_ratio_pr (a b : Int) (dr : Dr) : f_is_ratio [pr a b] dr = .ok (.bl (decide (0 < b) && decide (Int.gcd a b = 1))) dr := by
  rw [e_is_ratio]
  refine fD_rt ?_
  have g1 : decide (((Int.gcd a b : Nat) : Int) = 1) = decide (Int.gcd a b = 1) := by
    congr 1
    exact propext ⟨fun h => by omega, fun h => by omega⟩
  unfold b_is_ratio
  by_cases h : 0 < b
  · simp [sSeq, sIfS, sOr, sT, sNot, sUn, dNot, sIs, isB, sVar, sBin, sCall, sCons, sNil, dLen_tup, sC, dNe_int, sL, sComp, sItems, asSeq, sz2, cGo, gN, wipeS, cYes, sCallF, is_number_int, dAll_2, sNext, sRet, sAnd, ix0, ix1, dGt_int, h, dGcd_int, dEq_int, g1]
  · simp [sSeq, sIfS, sOr, sT, sNot, sUn, dNot, sIs, isB, sVar, sBin, sCall, sCons, sNil, dLen_tup, sC, dNe_int, sL, sComp, sItems, asSeq, sz2, cGo, gN, wipeS, cYes, sCallF, is_number_int, dAll_2, sNext, sRet, sAnd, ix0, ix1, dGt_int, h, dGcd_int, dEq_int, g1]
theorem rat_no {d : D} (h : isB .tuple d = some false) (dr : Dr) : f_is_ratio [d] dr = .ok (.bl false) dr := by
  rw [e_is_ratio]
  refine fD_rt ?_
  simp [b_is_ratio, sSeq, sIfS, sOr, sT, sNot, sUn, dNot, sIs, h, sVar, sRet, sC]
theorem rat_len {l : List D} (h : l.length ≠ 2) (dr : Dr) : f_is_ratio [.tup l] dr = .ok (.bl false) dr := by
  rw [e_is_ratio]
  refine fD_rt ?_
  have : ((l.length : Int) = 2) ↔ False := ⟨fun z => by omega, False.elim⟩
  simp [b_is_ratio, sSeq, sIfS, sOr, sT, sNot, sUn, dNot, sIs, isB, sVar, sRet, sC, sBin, sCall, sCons, sNil, dLen_tup, dNe_int, this]
theorem is_free_of {d : D} {x y : Bool} {dr : Dr} (h1 : f_is_number [d] dr = .ok (.bl x) dr) (h2 : f_is_ratio [d] dr = .ok (.bl y) dr) : f_is_free [d] dr = .ok (.bl (x || y)) dr := by
  rw [e_is_free]
  refine fD_rt ?_
  cases x <;> simp [b_is_free, sRet, sOr, sCallF, sCons, sVar, sNil, h1, h2]
theorem is_free_fr {d : D} {r : R} (f : Fr d r) (dr : Dr) : f_is_free [d] dr = .ok (.bl true) dr := by
  cases f with
  | int a => exact is_free_of (is_number_int a dr) (rat_no rfl dr)
  | @pr a b h0 h1 =>
    have k := is_free_of (is_number_tup _ dr) (is_ratio_pr a b dr)
    rw [k]
    simp [h0, h1]
theorem as_ratio_fr {d : D} {r : R} (f : Fr d r) (dr : Dr) : f_as_ratio [d] dr = .ok (prR r) dr := by
  rw [e_as_ratio]
  refine fD_rt ?_
  unfold b_as_ratio
  cases f <;> simp [sRet, sIf, sT, sIs, isB, sVar, sTup, sCons, sNil, sC, sz2]
theorem law_ratio_fr {d : D} {r : R} (f : Fr d r) (dr : Dr) : f_law_ratio [d] dr = .ok (prR r) dr := by
  rw [e_law_ratio]
  refine fD_rt ?_
  unfold b_law_ratio
  cases f <;> simp [sRet, sIf, sT, sIs, isB, sVar, sTup, sCons, sNil, sC, sz2]
/-- the sign -/
def sg (a : Int) : Int := if 0 < a then 1 else if a < 0 then -1 else 0
theorem sign_of_pr (a b : Int) (dr : Dr) : f_sign_of [pr a b] dr = .ok (.int (sg a)) dr := by
  rw [e_sign_of]
  refine fD_rt ?_
  unfold b_sign_of sg
  by_cases h1 : 0 < a <;> by_cases h2 : a < 0 <;> simp [sRet, sBin, sVar, sC, ix0, dGt_int, dLt_int, dSub, h1, h2, b2] <;> omega
end TP

set_option Elab.async false
set_option linter.all false
set_option maxRecDepth 100000
set_option maxHeartbeats 4000000
namespace TP
open PySem L2
/-! ### pure: changes, filled changes -/
/-- adjacent unlike ones -/
def adj {α : Type} [DecidableEq α] : List α → Nat
  | x :: y :: l => (if x ≠ y then 1 else 0) + adj (y :: l)
  | _ => 0
def chS (ss : List Int) : Int := (adj (ss.filter (· ≠ 0)) : Int) - (if ss.filter (· ≠ 0) = [] then 1 else 0)
inductive Mo where
  | both (a b : Int) | one (s a : Int)
def Mo.d : Mo → D
  | .both a b => .dic [.inl 1, .inl (-1)] [.int a, .int b]
  | .one s a => .dic [.inl s] [.int a]
def ne1 (x y : Int) : Int := if x = y then 0 else 1
def Mo.at (m : Mo) (more x : Int) : Int := match m with
  | .both a b => max (a + more * ne1 1 x) (b + more * ne1 (-1) x)
  | .one s a => a + more * ne1 s x
def Mo.step (m : Mo) (more s : Int) : Mo := if s = 0 then .both (m.at more 1) (m.at more (-1)) else .one s (m.at more s)
def Mo.top : Mo → Int
  | .both a b => max a b
  | .one _ a => a
def Mo.ok : Mo → Prop
  | .both _ _ => True
  | .one s _ => s = 1 ∨ s = -1
def filGo : Int → List Int → Mo → Mo
  | _, [], m => m
  | i, s :: l, m => filGo (i + 1) l (m.step (if 0 < i then 1 else 0) s)
def filM (ss : List Int) : Mo := filGo 0 ss (.both 0 0)
/-! ### the program's -/
theorem signs_comp (l : List R) (A : Sl) (i : Nat) (ρ : List Sl) (hi : i < ρ.length) (h0 : ρ[0]? = some (.val (.lst (l.map prR)))) (hi0 : i ≠ 0) (hl : l.length ≤ 1000) (dr : Dr) :
    sComp (sItems (sVar 0)) (gN i) (sT (sBin dNe (sCallF f_sign_of (sCons (sVar i) sNil)) (sC (.int 0)))) (sCallF f_sign_of (sCons (sVar i) sNil)) [i] ρ dr = .ok (((l.map fun r => sg r.1).filter (· ≠ 0)).map D.int) dr := by
  have k := comp_fil (it := sItems (sVar 0)) (b := gN i) (c := sT (sBin dNe (sCallF f_sign_of (sCons (sVar i) sNil)) (sC (.int 0)))) (e := sCallF f_sign_of (sCons (sVar i) sNil)) (vs := [i]) (ρ := ρ) (dr := dr) (dr0 := dr) l prR (fun r => !decide (sg r.1 = 0)) (fun r => .int (sg r.1)) (sItems_ok (sVar_ok h0) rfl) (sz_le hl) (fun r hr => by
    refine ⟨_, rfl, ?_, fun _ => ?_⟩
    · have e := (call1 (F := f_sign_of) (a := sVar i) (ρ := (wipeS ρ [i]).set i (.val (prR r))) (x := prR r) (dr := dr) (dr1 := dr) (sVar_ok (by simp [wipeS, hi]))).trans (sign_of_pr r.1 r.2 dr)
      simp [sT, sBin, e, sC, dNe_int]
    · exact (call1 (F := f_sign_of) (a := sVar i) (x := prR r) (dr := dr) (dr1 := dr) (sVar_ok (by simp [wipeS, hi]))).trans (sign_of_pr r.1 r.2 dr))
  rw [k, List.filter_map, List.map_map]
  congr 3
  funext r
  simp
theorem sixS (n : Nat) : HT.sIx n 0 (some 1) = min 1 n := by
  unfold HT.sIx
  simp
theorem cut1 (l : List D) : dCut (.lst l) (some 1) none = some (.lst (l.drop 1)) := by
  show some (D.lst ((l.drop (HT.sIx l.length 0 (some 1))).take (HT.sIx l.length l.length none - HT.sIx l.length 0 (some 1)))) = _
  rw [sixS]
  show some (D.lst ((l.drop (min 1 l.length)).take (l.length - min 1 l.length))) = _
  cases l with
  | nil => rfl
  | cons x l => simp
theorem zipL_map {α β : Type} (f : α → D) (g : β → D) : ∀ (a : List α) (b : List β), zipL (a.map f) (b.map g) = (a.zip b).map fun p => .tup [f p.1, g p.2]
  | [], b => by cases b <;> rfl
  | _ :: _, [] => rfl
  | x :: a, y :: b => by simp only [List.map_cons, zipL, List.zip_cons_cons, zipL_map f g a b]
theorem chg_zip : ∀ l : List Int, ((l.zip (l.drop 1)).filter fun p => !decide (p.1 = p.2)).length = adj l
  | [] => rfl
  | [x] => rfl
  | x :: y :: l => by
    have k := chg_zip (y :: l)
    simp only [List.drop_succ_cons, List.drop_zero] at k ⊢
    rw [List.zip_cons_cons, adj]
    by_cases h : x = y
    · rw [List.filter_cons_of_neg (by simp [h]), k]
      simp [h]
    · rw [List.filter_cons_of_pos (by simp [h]), List.length_cons, k]
      simp [h]
      omega
theorem dEq_nil (l : List Int) : dEq (.lst (l.map D.int)) (.lst []) = some (.bl (decide (l = []))) := by
  have ok : ∀ l : List Int, dOk 60 (.lst (l.map D.int)) = true := fun l => by
    simp only [dOk]
    induction l with
    | nil => simp [dOks]
    | cons x l ih => simp only [List.map_cons, dOks, ih]; simp [dOk]
  have ok0 := ok []
  unfold dEq
  rw [if_pos ⟨ok l, ok0⟩]
  cases l <;> simp [dEqv, dEqvs]
theorem changes_in_ok (l : List R) (hl : l.length ≤ 1000) (dr : Dr) : f_changes_in [.lst (l.map prR)] dr = .ok (.int (chS (l.map fun r => sg r.1))) dr := by
  rw [e_changes_in]
  refine fD_rt ?_
  unfold b_changes_in
  have c1 := signs_comp l .un 2 [.val (.lst (l.map prR)), .un, .un, .un, .un] (by simp) rfl (by decide) hl dr
  generalize hs : (l.map fun r => sg r.1).filter (· ≠ 0) = ss at c1
  have hsl : ss.length ≤ 1000 := by
    rw [← hs]
    refine Nat.le_trans (List.length_filter_le _ _) ?_
    rw [List.length_map]
    exact hl
  refine (sSeq_nx (ρ' := [.val (.lst (l.map prR)), .val (.lst (ss.map D.int)), .un, .un, .un]) (dr' := dr) (setV_ok (sL_ok c1))).trans ?_
  have c2 := comp_fil (it := sZip (sVar 1) (sCut (sVar 1) (sP (sC (.int 1))) sNoP)) (b := gTp (gCn (gN 3) (gCn (gN 4) gNl))) (c := sT (sBin dNe (sVar 3) (sVar 4))) (e := sVar 3) (vs := [3, 4]) (ρ := [.val (.lst (l.map prR)), .val (.lst (ss.map D.int)), .un, .un, .un]) (dr := dr) (dr0 := dr)
    (ss.zip (ss.drop 1)) (fun p : Int × Int => .tup [.int p.1, .int p.2]) (fun p => !decide (p.1 = p.2)) (fun p => .int p.1) (by
      have := cut1 (ss.map D.int)
      simp [sZip, sCut, sVar, sP, sC, sNoP, this, asSeq]
      rw [← List.map_tail]
      have k := zipL_map D.int D.int ss (ss.drop 1)
      simpa using k) (sz_le (by rw [List.length_zip, List.length_drop]; omega)) (fun p hp => by
      refine ⟨_, rfl, ?_, fun _ => rfl⟩
      simp [sT, sBin, sVar, wipeS, dNe_int])
  refine sRet_ok (sBin_ok (sCall1 (sL_ok c2) (dLen_lst _)) (sCall1 (x := .bl (decide (ss = []))) (z := .int (if ss = [] then 1 else 0)) ?_ ?_) ?_)
  · have := dEq_nil ss
    simp [sBin, sVar, sL, sLst, sNil, this]
  · show some (D.int (if decide (ss = []) = true then 1 else 0)) = _
    simp
  · rw [List.length_map, chg_zip]
    unfold chS
    rw [hs]
    rfl
theorem maxL_2 (a b : Int) : maxL [a, b] = max a b := rfl
theorem key_comp (m : Mo) (more x : Int) (hmo : more = 0 ∨ more = 1) {ρ : List Sl} (h1 : ρ[1]? = some (.val m.d)) (h5 : ρ[5]? = some (.val (.int more))) (h6 : ρ[6]? = some (.val (.int x))) (hl : 7 < ρ.length) (dr : Dr) :
    sCall dMax (sCons (sL (sComp (sKeys (sVar 1)) (gN 7) cYes (sBin dAdd (sBin dGet (sVar 1) (sVar 7)) (sBin dMul (sVar 5) (sCall dInt (sCons (sBin dNe (sVar 7) (sVar 6)) sNil)))) [7])) sNil) ρ dr = .ok (.int (m.at more x)) dr := by
  have mul : ∀ k : Int, mulB more k = true := fun k => mulB_l (by rcases hmo with rfl | rfl <;> decide)
  have el : ∀ (o v : Int), dGet m.d (.int o) = some (.int v) → ∃ ρ1, gN 7 (.int o) (wipeS ρ [7]) = some ρ1 ∧ sBin dAdd (sBin dGet (sVar 1) (sVar 7)) (sBin dMul (sVar 5) (sCall dInt (sCons (sBin dNe (sVar 7) (sVar 6)) sNil))) ρ1 dr = .ok (.int (v + more * ne1 o x)) dr := fun o v hg => by
    refine ⟨_, rfl, ?_⟩
    have g1 : ((wipeS ρ [7]).set 7 (.val (.int o)))[1]? = some (.val m.d) := by simp [wipeS, h1]
    have g5 : ((wipeS ρ [7]).set 7 (.val (.int o)))[5]? = some (.val (.int more)) := by simp [wipeS, h5]
    have g6 : ((wipeS ρ [7]).set 7 (.val (.int o)))[6]? = some (.val (.int x)) := by simp [wipeS, h6]
    have g7 : ((wipeS ρ [7]).set 7 (.val (.int o)))[7]? = some (.val (.int o)) := by simp [wipeS, hl]
    refine sBin_ok (x := .int v) (y := .int (more * ne1 o x)) (sBin_ok (sVar_ok g1) (sVar_ok g7) hg) (sBin_ok (x := .int more) (y := .int (ne1 o x)) (sVar_ok g5) (sCall1 (x := .bl (!decide (o = x))) (sBin_ok (sVar_ok g7) (sVar_ok g6) (dNe_int o x)) ?_) (dMul_ok (mul _))) rfl
    show some (D.int (if (!decide (o = x)) = true then 1 else 0)) = _
    unfold ne1
    by_cases h : o = x <;> simp [h]
  cases m with
  | both a b =>
    have k := comp_map (it := sKeys (sVar 1)) (b := gN 7) (e := sBin dAdd (sBin dGet (sVar 1) (sVar 7)) (sBin dMul (sVar 5) (sCall dInt (sCons (sBin dNe (sVar 7) (sVar 6)) sNil)))) (vs := [7]) (ρ := ρ) (dr := dr) (dr0 := dr) [((1 : Int), a), (-1, b)] (fun p => .int p.1) (fun p => .int (p.2 + more * ne1 p.1 x))
      (by simp [sKeys, sVar, h1, Mo.d, keysD, keyD]) sz2 (fun p hp => by
        simp only [List.mem_cons, List.not_mem_nil, or_false] at hp
        rcases hp with rfl | rfl
        · exact el 1 a rfl
        · exact el (-1) b rfl)
    exact sCall1 (sL_ok k) (dMax_ints (is := [a + more * ne1 1 x, b + more * ne1 (-1) x]) (by simp))
  | one s a =>
    have k := comp_map (it := sKeys (sVar 1)) (b := gN 7) (e := sBin dAdd (sBin dGet (sVar 1) (sVar 7)) (sBin dMul (sVar 5) (sCall dInt (sCons (sBin dNe (sVar 7) (sVar 6)) sNil)))) (vs := [7]) (ρ := ρ) (dr := dr) (dr0 := dr) [(s, a)] (fun p => .int p.1) (fun p => .int (p.2 + more * ne1 p.1 x))
      (by simp [sKeys, sVar, h1, Mo.d, keysD, keyD]) sz1 (fun p hp => by
        simp only [List.mem_cons, List.not_mem_nil, or_false] at hp
        subst hp
        refine el s a ?_
        show valD [Sum.inl s] [D.int a] (Sum.inl s) = _
        simp [valD])
    exact sCall1 (sL_ok k) (dMax_ints (is := [a + more * ne1 s x]) (by simp))
theorem dGo_1 {k e : ES} {ρ : List Sl} {dr : Dr} {a : Int} {va : D} {i : Nat} (ha : k (ρ.set i (.val (.int a))) dr = .ok (.int a) dr) (ea : e (ρ.set i (.val (.int a))) dr = .ok va dr) :
    dGo (gN i) cYes k e ρ [.int a] [] dr = .ok [(Sum.inl a, va)] dr := by
  simp [dGo, gN, cYes, ha, ea, dKey, putP]
theorem dGo_2 {k e : ES} {ρ : List Sl} {dr : Dr} {a b : Int} {va vb : D} {i : Nat} (hab : a ≠ b) (ha : k (ρ.set i (.val (.int a))) dr = .ok (.int a) dr) (ea : e (ρ.set i (.val (.int a))) dr = .ok va dr)
    (hb : k (ρ.set i (.val (.int b))) dr = .ok (.int b) dr) (eb : e (ρ.set i (.val (.int b))) dr = .ok vb dr) :
    dGo (gN i) cYes k e ρ [.int a, .int b] [] dr = .ok [(Sum.inl a, va), (Sum.inl b, vb)] dr := by
  simp [dGo, gN, cYes, ha, ea, hb, eb, dKey, putP, hab]
theorem fil_body (A s2 s3 s4 s5 : Sl) (m : Mo) (i : Int) (r : R) (dr : Dr) : ∃ s4' s5', (sSeq (sSet 4 (zV (sIf (sBin dEq (sCallF f_sign_of (sCons (sVar 3) sNil)) (sC (.int 0))) (sTup (sCons (sC (.int 1)) (sCons (sUn dNeg (sC (.int 1))) sNil))) (sTup (sCons (sCallF f_sign_of (sCons (sVar 3) sNil)) sNil))))) (sSeq (sSet 5 (zV (sIf (sBin dGt (sVar 2) (sC (.int 0))) (sC (.int 1)) (sC (.int 0))))) (sSet 1 (zV (sDcomp (sItems (sVar 4)) (gN 6) cYes (sVar 6) (sCall dMax (sCons (sL (sComp (sKeys (sVar 1)) (gN 7) cYes (sBin dAdd (sBin dGet (sVar 1) (sVar 7)) (sBin dMul (sVar 5) (sCall dInt (sCons (sBin dNe (sVar 7) (sVar 6)) sNil)))) [7])) sNil)) [6])))))
    [A, .val m.d, .val (.int i), .val (prR r), s4, s5, .un, .un] dr = .ok (.nx [A, .val (m.step (if 0 < i then 1 else 0) (sg r.1)).d, .val (.int i), .val (prR r), s4', s5', .un, .un]) dr := by
  obtain ⟨more, hmo⟩ : ∃ more : Int, more = if 0 < i then 1 else 0 := ⟨_, rfl⟩
  have mo : more = 0 ∨ more = 1 := by rw [hmo]; split <;> simp
  rw [← hmo]
  obtain ⟨s, hs⟩ : ∃ s, s = sg r.1 := ⟨_, rfl⟩
  have sgn : ∀ (s4 s5 : Sl), sCallF f_sign_of (sCons (sVar 3) sNil) [A, .val m.d, .val (.int i), .val (prR r), s4, s5, .un, .un] dr = .ok (.int s) dr := fun s4 s5 => by
    rw [hs]
    exact (call1 (F := f_sign_of) (x := prR r) (dr1 := dr) rfl).trans (sign_of_pr r.1 r.2 dr)
  rw [← hs]
  obtain ⟨kl, hkl⟩ : ∃ kl : List D, kl = if s = 0 then [.int 1, .int (-1)] else [.int s] := ⟨_, rfl⟩
  refine ⟨.val (.tup kl), .val (.int more), ?_⟩
  refine (sSeq_nx (ρ' := [A, .val m.d, .val (.int i), .val (prR r), .val (.tup kl), s5, .un, .un]) (dr' := dr) (setV_ok ?_)).trans ?_
  · have := sgn s4 s5
    by_cases h : s = 0
    · rw [if_pos h] at hkl
      simp [sIf, sT, sBin, sC, dEq_int, this, h, sTup, sCons, sNil, sUn, dNeg, sz2, hkl]
    · rw [if_neg h] at hkl
      simp [sIf, sT, sBin, sC, dEq_int, this, h, sTup, sCons, sNil, sUn, dNeg, sz1, hkl]
  refine (sSeq_nx (ρ' := [A, .val m.d, .val (.int i), .val (prR r), .val (.tup kl), .val (.int more), .un, .un]) (dr' := dr) (setV_ok ?_)).trans ?_
  · rw [hmo]
    by_cases h : 0 < i <;> simp [sIf, sT, sBin, sC, sVar, dGt_int, h]
  let ρ : List Sl := [A, .val m.d, .val (.int i), .val (prR r), .val (.tup kl), .val (.int more), .un, .un]
  have kc : ∀ x : Int, _ := fun x => key_comp m more x mo (ρ := ρ.set 6 (.val (.int x))) rfl rfl rfl (by simp [ρ]) dr
  refine setV_ok ?_
  have it : sItems (sVar 4) ρ dr = .ok kl dr := rfl
  have hz : kl.length ≤ sizeLine := by
    rw [hkl]
    split
    · exact sz2
    · exact sz1
  show sDcomp _ _ _ _ _ _ ρ dr = _
  simp only [sDcomp, it, bind_ok, if_pos hz]
  show (dGo (gN 6) cYes (sVar 6) _ ρ kl [] dr).bind _ = _
  by_cases h : s = 0
  · rw [hkl, if_pos h, dGo_2 (by decide) rfl (kc 1) rfl (kc (-1))]
    unfold Mo.step
    rw [if_pos h]
    rfl
  · rw [hkl, if_neg h, dGo_1 rfl (kc s)]
    unfold Mo.step
    rw [if_neg h]
    rfl
theorem fil_loop (A : Sl) (dr : Dr) : ∀ (l : List R) (i : Int) (m : Mo) (s2 s3 s4 s5 : Sl), ∃ t2 t3 t4 t5, fGo (gTp (gCn (gN 2) (gCn (gN 3) gNl))) (sSeq (sSet 4 (zV (sIf (sBin dEq (sCallF f_sign_of (sCons (sVar 3) sNil)) (sC (.int 0))) (sTup (sCons (sC (.int 1)) (sCons (sUn dNeg (sC (.int 1))) sNil))) (sTup (sCons (sCallF f_sign_of (sCons (sVar 3) sNil)) sNil))))) (sSeq (sSet 5 (zV (sIf (sBin dGt (sVar 2) (sC (.int 0))) (sC (.int 1)) (sC (.int 0))))) (sSet 1 (zV (sDcomp (sItems (sVar 4)) (gN 6) cYes (sVar 6) (sCall dMax (sCons (sL (sComp (sKeys (sVar 1)) (gN 7) cYes (sBin dAdd (sBin dGet (sVar 1) (sVar 7)) (sBin dMul (sVar 5) (sCall dInt (sCons (sBin dNe (sVar 7) (sVar 6)) sNil)))) [7])) sNil)) [6])))))
    (enumL i (l.map prR)) [A, .val m.d, s2, s3, s4, s5, .un, .un] dr = .ok (.nx [A, .val (filGo i (l.map fun r => sg r.1) m).d, t2, t3, t4, t5, .un, .un]) dr
  | [], i, m, s2, s3, s4, s5 => ⟨s2, s3, s4, s5, rfl⟩
  | r :: l, i, m, s2, s3, s4, s5 => by
    obtain ⟨a4, a5, e⟩ := fil_body A s2 s3 s4 s5 m i r dr
    obtain ⟨t2, t3, t4, t5, k⟩ := fil_loop A dr l (i + 1) (m.step (if 0 < i then 1 else 0) (sg r.1)) (.val (.int i)) (.val (prR r)) a4 a5
    refine ⟨t2, t3, t4, t5, ?_⟩
    rw [List.map_cons, enumL, fGo]
    simp only [gTp, gCn, gNl, gN, Option.bind_some, List.set_cons_succ, List.set_cons_zero]
    rw [e]
    exact k
theorem top_ok (m : Mo) : dMaxV m.d = some (.int m.top) := by cases m <;> rfl
theorem filled_in_ok (l : List R) (dr : Dr) : f_filled_in [.lst (l.map prR)] dr = .ok (.int (filM (l.map fun r => sg r.1)).top) dr := by
  rw [e_filled_in]
  refine fD_rt ?_
  unfold b_filled_in
  obtain ⟨t2, t3, t4, t5, e⟩ := fil_loop (.val (.lst (l.map prR))) dr l 0 (.both 0 0) .un .un .un .un
  refine (sSeq_nx (ρ' := [.val (.lst (l.map prR)), .val (Mo.both 0 0).d, .un, .un, .un, .un, .un, .un]) (dr' := dr) (setV_ok (by rfl))).trans ?_
  refine (sSeq_nx (ρ' := [.val (.lst (l.map prR)), .val (filM (l.map fun r => sg r.1)).d, t2, t3, t4, t5, .un, .un]) (dr' := dr) e).trans ?_
  refine sRet_ok ?_
  have := top_ok (filM (l.map fun r => sg r.1))
  simp [sUn, sVar, this]
end TP

set_option Elab.async false
set_option linter.all false
set_option maxRecDepth 100000
set_option maxHeartbeats 4000000
namespace TP
open PySem L2
/-! ### the law's -/
theorem adj_map {α β : Type} [DecidableEq α] [DecidableEq β] (f : α → β) : ∀ l : List α, (∀ x ∈ l, ∀ y ∈ l, f x = f y → x = y) → adj (l.map f) = adj l
  | [], _ => rfl
  | [x], _ => rfl
  | x :: y :: l, h => by
    have k := adj_map f (y :: l) fun a ha b hb => h a (List.mem_cons_of_mem _ ha) b (List.mem_cons_of_mem _ hb)
    simp only [List.map_cons] at k ⊢
    rw [adj, adj, k]
    have : f x = f y ↔ x = y := ⟨h x (by simp) y (by simp), fun e => by rw [e]⟩
    simp [this]
theorem adj_range {α : Type} [DecidableEq α] [Inhabited α] : ∀ l : List α, ((List.range (l.length - 1)).filter fun k => !decide (l.getD (k + 1) default = l.getD k default)).length = adj l
  | [] => rfl
  | [x] => rfl
  | x :: y :: l => by
    have k := adj_range (y :: l)
    simp only [List.length_cons, Nat.add_sub_cancel] at k ⊢
    rw [List.range_succ_eq_map, adj, ← k]
    have e : ((List.range l.length).map Nat.succ).filter (fun k => !decide ((x :: y :: l).getD (k + 1) default = (x :: y :: l).getD k default)) = ((List.range l.length).filter fun k => !decide ((y :: l).getD (k + 1) default = (y :: l).getD k default)).map Nat.succ := by
      rw [List.filter_map]
      rfl
    by_cases h : x = y
    · rw [List.filter_cons_of_neg (by simp [h]), e, List.length_map]
      simp [h]
    · rw [List.filter_cons_of_pos (by simp [h]; exact fun z => h z.symm), List.length_cons, e, List.length_map]
      simp [h]
      omega
theorem sg_ne (a : Int) : sg a ≠ 0 ↔ a ≠ 0 := by unfold sg; split <;> (try split) <;> omega
theorem sg_pos (a : Int) : (0 < sg a) ↔ 0 < a := by unfold sg; split <;> (try split) <;> omega
theorem sg_cases (a : Int) : sg a = 0 ∨ sg a = 1 ∨ sg a = -1 := by unfold sg; split <;> (try split) <;> simp
theorem range2_ok {a b : ES} {ρ : List Sl} {dr dr1 dr2 : Dr} {i j : Int} (ha : a ρ dr = .ok (.int i) dr1) (hb : b ρ dr1 = .ok (.int j) dr2) (h1 : -1000000 ≤ i) (h2 : i ≤ 1000000) (h3 : -1000000 ≤ j) (h4 : j ≤ 1000000) : sRange2 a b ρ dr = .ok (rangeL i (j - i).toNat) dr2 := by
  have h : -(2 ^ 62) ≤ i ∧ i < 2 ^ 62 ∧ -(2 ^ 62) ≤ j ∧ j < 2 ^ 62 := by omega
  simp only [sRange2, ha, hb, bind_ok]
  rw [if_pos h]
/-- [at for at in range(1, len(x)) if x[at] != x[at - 1]] -/
theorem adj_comp {α : Type} [DecidableEq α] [Inhabited α] (enc : α → D) (mk : List D → D) (xs : List α) (hx : xs.length ≤ 1000) (i j : Nat) (hne : ∀ x y : α, dNe (enc x) (enc y) = some (.bl (!decide (x = y)))) {ρ : List Sl} (hi : ρ[i]? = some (.val (mk (xs.map enc)))) (hj : j < ρ.length) (hij : i ≠ j)
    (hix : ∀ k (h : k < xs.length), dIx (mk (xs.map enc)) (.int (k : Nat)) = some (enc xs[k])) (hlen : dLen [mk (xs.map enc)] = some (.int xs.length)) (dr : Dr) :
    sCall dLen (sCons (sL (sComp (sRange2 (sC (.int 1)) (sCall dLen (sCons (sVar i) sNil))) (gN j) (sT (sBin dNe (sBin dIx (sVar i) (sVar j)) (sBin dIx (sVar i) (sBin dSub (sVar j) (sC (.int 1)))))) (sVar j) [j])) sNil) ρ dr = .ok (.int (adj xs)) dr := by
  have it : sRange2 (sC (.int 1)) (sCall dLen (sCons (sVar i) sNil)) ρ dr = .ok ((List.range (xs.length - 1)).map fun (k : Nat) => D.int (1 + (k : Int))) dr := by
    rw [range2_ok (i := 1) (j := xs.length) rfl (sCall1 (sVar_ok hi) hlen) (by decide) (by decide) (by omega) (by omega), rangeL_map]
    congr 3
    omega
  have k := comp_fil (it := sRange2 (sC (.int 1)) (sCall dLen (sCons (sVar i) sNil))) (b := gN j) (c := sT (sBin dNe (sBin dIx (sVar i) (sVar j)) (sBin dIx (sVar i) (sBin dSub (sVar j) (sC (.int 1)))))) (e := sVar j) (vs := [j]) (ρ := ρ) (dr := dr) (dr0 := dr)
    (List.range (xs.length - 1)) (fun (k : Nat) => D.int (1 + (k : Int))) (fun k => !decide (xs.getD (k + 1) default = xs.getD k default)) (fun (k : Nat) => D.int (1 + (k : Int))) it (sz_le (by simp; omega)) (fun k hk => by
      have hk' : k < xs.length - 1 := by simpa using hk
      have gi : ((wipeS ρ [j]).set j (.val (.int (1 + (k : Int)))))[i]? = some (.val (mk (xs.map enc))) := by simp [wipeS, Ne.symm hij, hi]
      have gj : ((wipeS ρ [j]).set j (.val (.int (1 + (k : Int)))))[j]? = some (.val (.int (1 + (k : Int)))) := by simp [wipeS, hj]
      refine ⟨_, rfl, ?_, fun _ => sVar_ok gj⟩
      have e1 : (1 + (k : Int)) = ((k + 1 : Nat) : Int) := by omega
      have e2 : (1 + (k : Int)) - 1 = ((k : Nat) : Int) := by omega
      have a1 := hix (k + 1) (by omega)
      have a2 := hix k (by omega)
      rw [← e1] at a1
      rw [← e2] at a2
      have n := sBin_ok (sBin_ok (sVar_ok gi (dr := dr)) (sVar_ok gj) a1) (sBin_ok (sVar_ok gi) (sBin_ok (sVar_ok gj) (y := .int 1) (a := sVar j) (b := sC (.int 1)) rfl (dSub_int _ _)) a2) (hne _ _)
      simp only [sT, n, bind_ok]
      congr 2
      rw [List.getD_eq_getElem?_getD, List.getElem?_eq_getElem (show k + 1 < xs.length by omega), List.getD_eq_getElem?_getD, List.getElem?_eq_getElem (show k < xs.length by omega)]
      rfl)
  refine sCall1 (sL_ok k) ?_
  rw [dLen_lst, List.length_map, adj_range]
theorem law_changes_ok (l : List R) (hl : l.length ≤ 1000) (dr : Dr) : f_law_changes [.lst (l.map prR)] dr = .ok (.int (chS (l.map fun r => sg r.1))) dr := by
  rw [e_law_changes]
  refine fD_rt ?_
  unfold b_law_changes
  have c1 := comp_fil (it := sItems (sVar 0)) (b := gN 2) (c := sT (sBin dNe (sBin dIx (sVar 2) (sC (.int 0))) (sC (.int 0)))) (e := sBin dGt (sBin dIx (sVar 2) (sC (.int 0))) (sC (.int 0))) (vs := [2]) (ρ := [.val (.lst (l.map prR)), .un, .un, .un]) (dr := dr) (dr0 := dr)
    l prR (fun r => !decide (r.1 = 0)) (fun r => .bl (decide (0 < r.1))) rfl (sz_le hl) (fun r _ => ⟨_, rfl, by simp [sT, sBin, sVar, wipeS, sC, ix0, dNe_int], fun _ => by simp [sBin, sVar, wipeS, sC, ix0, dGt_int]⟩)
  obtain ⟨bs, hbs⟩ : ∃ bs : List Bool, bs = (l.filter fun r => !decide (r.1 = 0)).map fun r => decide (0 < r.1) := ⟨_, rfl⟩
  have e0 : (l.filter fun r => !decide (r.1 = 0)).map (fun r => D.bl (decide (0 < r.1))) = bs.map D.bl := by rw [hbs, List.map_map]; rfl
  rw [e0] at c1
  have hb : bs.length ≤ 1000 := by rw [hbs, List.length_map]; exact Nat.le_trans (List.length_filter_le _ _) hl
  have ss : bs = ((l.map fun r => sg r.1).filter (· ≠ 0)).map fun s => decide (0 < s) := by
    rw [hbs, List.filter_map, List.map_map]
    have f : (fun r : R => !decide (r.1 = 0)) = ((fun x : Int => decide (x ≠ 0)) ∘ fun r : R => sg r.1) := by
      funext r
      have := sg_ne r.1
      by_cases h : r.1 = 0 <;> simp_all
    rw [f]
    congr 1
    funext r
    simp [sg_pos]
  have ad : adj bs = adj ((l.map fun r => sg r.1).filter (· ≠ 0)) := by
    rw [ss]
    refine adj_map _ _ fun x hx y hy e => ?_
    have m : ∀ x ∈ (l.map fun r => sg r.1).filter (· ≠ 0), x = 1 ∨ x = -1 := fun x hx => by
      obtain ⟨h1, h2⟩ := List.mem_filter.mp hx
      obtain ⟨r, _, rfl⟩ := List.mem_map.mp h1
      rcases sg_cases r.1 with z | z | z
      · rw [z] at h2; simp at h2
      · exact .inl z
      · exact .inr z
    rcases m x hx with rfl | rfl <;> rcases m y hy with rfl | rfl <;> simp at e ⊢
  refine (sSeq_nx (ρ' := [.val (.lst (l.map prR)), .val (.lst (bs.map D.bl)), .un, .un]) (dr' := dr) (setV_ok (sL_ok c1))).trans ?_
  refine sRet_ok ?_
  have okb : ∀ l : List Bool, dOk 60 (.lst (l.map D.bl)) = true := fun l => by
    simp only [dOk]
    induction l with
    | nil => simp [dOks]
    | cons x l ih => simp only [List.map_cons, dOks, ih]; simp [dOk]
  have ne : dNe (.lst (bs.map D.bl)) (.lst []) = some (.bl (!decide (bs = []))) := by
    unfold dNe
    rw [if_pos ⟨okb bs, okb []⟩]
    cases bs <;> simp [dEqv, dEqvs]
  have tst : sT (sBin dNe (sVar 1) (sL (sLst sNil))) [.val (.lst (l.map prR)), .val (.lst (bs.map D.bl)), .un, .un] dr = .ok (!decide (bs = [])) dr := by
    simp [sT, sBin, sVar, sL, sLst, sNil, ne]
  unfold sIf
  rw [tst]
  simp only [bind_ok]
  have es : (bs = []) ↔ ((l.map fun r => sg r.1).filter (· ≠ 0)) = [] := by rw [ss]; simp
  by_cases h0 : bs = []
  · simp only [h0, decide_true, Bool.not_true, if_false, Bool.false_eq_true]
    have : chS (l.map fun r => sg r.1) = -1 := by
      unfold chS
      rw [es.mp h0]
      rfl
    rw [this]
    rfl
  · simp only [h0, decide_false, Bool.not_false, if_true]
    have k := adj_comp D.bl D.lst bs hb 1 3 (fun x y => by rw [dNe_bl]; cases x <;> cases y <;> rfl) (ρ := [.val (.lst (l.map prR)), .val (.lst (bs.map D.bl)), .un, .un]) rfl (by simp) (by decide) (fun k h => by
      rw [dIx_lst (by rw [List.length_map]; exact h), List.getElem_map]) (by rw [dLen_lst, List.length_map]) dr
    rw [k, ad]
    unfold chS
    rw [if_neg (fun z => h0 (es.mpr z))]
    simp
/-! ### all fillings -/
def opts (s : Int) : List Int := if s = 0 then [1, -1] else [s]
def fillS (L : List (List Int)) (s : Int) : List (List Int) := (L.map fun t => (opts s).map fun x => t ++ [x]).flatten
def fills (ss : List Int) (L : List (List Int)) : List (List Int) := ss.foldl fillS L
theorem catD_map : ∀ Ls : List (List D), catD (Ls.map D.lst) = some Ls.flatten
  | [] => rfl
  | l :: Ls => by
    rw [List.map_cons, catD, catD_map Ls]
    rfl
theorem fillS_len (L : List (List Int)) (s : Int) : (fillS L s).length ≤ 2 * L.length := by
  unfold fillS
  induction L with
  | nil => simp
  | cons t L ih =>
    rw [List.map_cons, List.flatten_cons, List.length_append, List.length_map, List.length_cons]
    have : (opts s).length ≤ 2 := by unfold opts; split <;> simp
    omega
abbrev tupI (t : List Int) : D := .tup (t.map D.int)
theorem fill_turn (A : Sl) (L : List (List Int)) (r : R) (n : Nat) (hL : L.length ≤ 300) (ht : ∀ t ∈ L, t.length ≤ 100) (s3 s4 s5 : Sl) (dr : Dr) :
    sSet 1 (zV (sSumL (sL (sComp (sItems (sVar 1)) (gN 3) cYes (sL (sComp (sItems (sIf (sBin dEq (sBin dIx (sVar 2) (sC (.int 0))) (sC (.int 0))) (sL (sLst (sCons (sC (.int 1)) (sCons (sBin dSub (sC (.int 0)) (sC (.int 1))) sNil)))) (sL (sLst (sCons (sIf (sBin dGt (sBin dIx (sVar 2) (sC (.int 0))) (sC (.int 0))) (sC (.int 1)) (sBin dSub (sC (.int 0)) (sC (.int 1)))) sNil))))) (gN 4) cYes (sBin dAdd (sVar 3) (sTup (sCons (sVar 4) sNil))) [4])) [3]))))
      [A, .val (.lst (L.map tupI)), .val (prR r), .un, .un, .un] dr = .ok (.nx [A, .val (.lst ((fillS L (sg r.1)).map tupI)), .val (prR r), .un, .un, .un]) dr := by
  refine setV_ok (x := .lst ((fillS L (sg r.1)).map tupI)) ?_
  have k := comp_map (it := sItems (sVar 1)) (b := gN 3) (e := sL (sComp (sItems (sIf (sBin dEq (sBin dIx (sVar 2) (sC (.int 0))) (sC (.int 0))) (sL (sLst (sCons (sC (.int 1)) (sCons (sBin dSub (sC (.int 0)) (sC (.int 1))) sNil)))) (sL (sLst (sCons (sIf (sBin dGt (sBin dIx (sVar 2) (sC (.int 0))) (sC (.int 0))) (sC (.int 1)) (sBin dSub (sC (.int 0)) (sC (.int 1)))) sNil))))) (gN 4) cYes (sBin dAdd (sVar 3) (sTup (sCons (sVar 4) sNil))) [4])) (vs := [3]) (ρ := [A, .val (.lst (L.map tupI)), .val (prR r), .un, .un, .un]) (dr := dr) (dr0 := dr)
    L tupI (fun t => .lst (((opts (sg r.1)).map fun x => t ++ [x]).map tupI)) rfl (sz_le (by omega)) (fun t hmt => by
      refine ⟨_, rfl, sL_ok ?_⟩
      rw [List.map_map]
      refine comp_map (opts (sg r.1)) D.int (fun x => tupI (t ++ [x])) ?_ (sz_le (by unfold opts; split <;> simp)) (fun x hx => ⟨_, rfl, ?_⟩)
      · refine sItems_ok (x := .lst ((opts (sg r.1)).map D.int)) ?_ rfl
        unfold sg opts
        by_cases h1 : r.1 = 0
        · simp [sIf, sT, sBin, sVar, wipeS, sC, ix0, dEq_int, h1, sL, sLst, sCons, sNil, sz2, dSub]
        · by_cases h2 : 0 < r.1
          · simp [sIf, sT, sBin, sVar, wipeS, sC, ix0, dEq_int, dGt_int, h1, h2, sL, sLst, sCons, sNil, sz1, dSub]
          · have h3 : r.1 < 0 := by omega
            simp [sIf, sT, sBin, sVar, wipeS, sC, ix0, dEq_int, dGt_int, h1, h2, h3, sL, sLst, sCons, sNil, sz1, dSub]
      · have z : (t.map D.int).length + [D.int x].length ≤ sizeLine := sz_le (by have := ht t hmt; simp; omega)
        refine sBin_ok (x := tupI t) (y := .tup [.int x]) rfl (by simp [sTup, sCons, sVar, wipeS, sNil, sz1]) ?_
        have q : dAdd (tupI t) (.tup [.int x]) = some (.tup (t.map D.int ++ [.int x])) := if_pos z
        rw [q, tupI, List.map_append]
        rfl)
  have hf := fillS_len L (sg r.1)
  have ec : catD (L.map fun t => .lst (((opts (sg r.1)).map fun x => t ++ [x]).map tupI)) = some ((fillS L (sg r.1)).map tupI) := by
    have := catD_map (L.map fun t => ((opts (sg r.1)).map fun x => t ++ [x]).map tupI)
    rw [List.map_map] at this
    rw [show (L.map fun t => D.lst (((opts (sg r.1)).map fun x => t ++ [x]).map tupI)) = L.map (D.lst ∘ fun t => ((opts (sg r.1)).map fun x => t ++ [x]).map tupI) from rfl, this]
    unfold fillS
    rw [List.map_flatten, List.map_map]
    rfl
  have zz : ((fillS L (sg r.1)).map tupI).length ≤ sizeLine := sz_le (by rw [List.length_map]; omega)
  unfold sSumL
  rw [sL_ok k]
  simp only [bind_ok, ec, if_pos zz]
theorem fillS_in {L : List (List Int)} {s : Int} {n : Nat} (h : ∀ t ∈ L, t.length = n) : ∀ t ∈ fillS L s, t.length = n + 1 := fun t ht => by
  unfold fillS at ht
  obtain ⟨l, h1, h2⟩ := List.mem_flatten.mp ht
  obtain ⟨u, hu, rfl⟩ := List.mem_map.mp h1
  obtain ⟨x, _, rfl⟩ := List.mem_map.mp h2
  simp [h u hu]
theorem fill_loop (A : Sl) (dr : Dr) : ∀ (l : List R) (L : List (List Int)) (n : Nat) (s2 : Sl), (∀ t ∈ L, t.length = n) → L.length ≤ 2 ^ n → n + l.length ≤ 8 →
    ∃ s2', fGo (gN 2) (sSet 1 (zV (sSumL (sL (sComp (sItems (sVar 1)) (gN 3) cYes (sL (sComp (sItems (sIf (sBin dEq (sBin dIx (sVar 2) (sC (.int 0))) (sC (.int 0))) (sL (sLst (sCons (sC (.int 1)) (sCons (sBin dSub (sC (.int 0)) (sC (.int 1))) sNil)))) (sL (sLst (sCons (sIf (sBin dGt (sBin dIx (sVar 2) (sC (.int 0))) (sC (.int 0))) (sC (.int 1)) (sBin dSub (sC (.int 0)) (sC (.int 1)))) sNil))))) (gN 4) cYes (sBin dAdd (sVar 3) (sTup (sCons (sVar 4) sNil))) [4])) [3])))))
      (l.map prR) [A, .val (.lst (L.map tupI)), s2, .un, .un, .un] dr = .ok (.nx [A, .val (.lst ((fills (l.map fun r => sg r.1) L).map tupI)), s2', .un, .un, .un]) dr ∧ (fills (l.map fun r => sg r.1) L).length ≤ 256 ∧ ∀ t ∈ fills (l.map fun r => sg r.1) L, t.length ≤ 8
  | [], L, n, s2, ht, hL, hn => ⟨s2, rfl, Nat.le_trans hL (Nat.le_trans (Nat.pow_le_pow_right (by decide) (show n ≤ 8 by simpa using hn)) (by decide)), fun t h => by rw [ht t h]; simpa using hn⟩
  | r :: l, L, n, s2, ht, hL, hn => by
    have h2 : 2 ^ n ≤ 256 := Nat.le_trans (Nat.pow_le_pow_right (by decide) (show n ≤ 8 by simp at hn; omega)) (by decide)
    have e := fill_turn A L r n (by omega) (fun t h => by rw [ht t h]; simp at hn; omega) .un .un .un dr
    obtain ⟨s2', k, k2, k3⟩ := fill_loop A dr l (fillS L (sg r.1)) (n + 1) (.val (prR r)) (fillS_in ht) (by have := fillS_len L (sg r.1); rw [Nat.pow_succ]; omega) (by simp at hn; omega)
    refine ⟨s2', ?_, k2, k3⟩
    rw [List.map_cons, fGo]
    simp only [gN, List.set_cons_succ, List.set_cons_zero]
    rw [e]
    exact k
theorem law_filled_ok (l : List R) (hl : l.length ≤ 8) (h0 : fills (l.map fun r => sg r.1) [[]] ≠ []) (dr : Dr) : f_law_filled [.lst (l.map prR)] dr = .ok (.int (maxL ((fills (l.map fun r => sg r.1) [[]]).map fun t => (adj t : Int)))) dr := by
  rw [e_law_filled]
  refine fD_rt ?_
  unfold b_law_filled
  obtain ⟨s2, e, e2, e3⟩ := fill_loop (.val (.lst (l.map prR))) dr l [[]] 0 .un (by simp) (by simp) (by omega)
  refine (sSeq_nx (ρ' := [.val (.lst (l.map prR)), .val (.lst [.tup []]), .un, .un, .un, .un]) (dr' := dr) (setV_ok (sL_ok (by simp [sLst, sCons, sNil, sTup, sz0, sz1])))).trans ?_
  refine (sSeq_nx (dr' := dr) e).trans ?_
  generalize hF : fills (l.map fun r => sg r.1) [[]] = F at e2 e3 h0
  have k := comp_map (it := sItems (sVar 1)) (b := gN 3) (e := sCall dLen (sCons (sL (sComp (sRange2 (sC (.int 1)) (sCall dLen (sCons (sVar 3) sNil))) (gN 5) (sT (sBin dNe (sBin dIx (sVar 3) (sVar 5)) (sBin dIx (sVar 3) (sBin dSub (sVar 5) (sC (.int 1)))))) (sVar 5) [5])) sNil)) (vs := [3]) (ρ := [.val (.lst (l.map prR)), .val (.lst (F.map tupI)), s2, .un, .un, .un]) (dr := dr) (dr0 := dr)
    F tupI (fun t => .int (adj t)) rfl (sz_le (by omega)) (fun t ht => ⟨_, rfl, adj_comp D.int D.tup t (by have := e3 t ht; omega) 3 5 (fun x y => dNe_int x y) rfl (by simp [wipeS]) (by decide) (fun k h => by
      rw [dIx_tup (by rw [List.length_map]; exact h), List.getElem_map]) (by rw [dLen_tup, List.length_map]) dr⟩)
  refine sRet_ok (sCall1 (sL_ok k) ?_)
  have := dMax_ints (is := F.map fun t => (adj t : Int)) (by simpa using h0)
  rw [List.map_map] at this
  exact this
end TP

set_option Elab.async false
set_option linter.all false
set_option maxRecDepth 100000
set_option maxHeartbeats 4000000
namespace TP
open PySem L2
/-! ### the best of all fillings -/
theorem adj_snoc : ∀ (t : List Int) (x y : Int), t.getLast? = some y → (adj (t ++ [x]) : Int) = adj t + ne1 y x
  | [], _, _, h => by simp at h
  | [a], x, y, h => by
    simp at h
    subst h
    show ((adj [a, x] : Nat) : Int) = ((adj [a] : Nat) : Int) + ne1 a x
    by_cases q : a = x <;> simp [adj, ne1, q]
  | a :: b :: t, x, y, h => by
    have k := adj_snoc (b :: t) x y (by simpa using h)
    rw [List.cons_append] at k ⊢
    rw [List.cons_append, adj, adj]
    have e : adj (b :: (t ++ [x])) = adj (b :: t) + (adj (b :: (t ++ [x])) - adj (b :: t)) := by
      have : (adj (b :: (t ++ [x])) : Int) = (adj (b :: t) : Int) + ne1 y x := k
      unfold ne1 at this
      split at this <;> omega
    have : (adj (b :: (t ++ [x])) : Int) = (adj (b :: t) : Int) + ne1 y x := k
    omega
def Best (L : List (List Int)) (x a : Int) : Prop := (∃ t ∈ L, t.getLast? = some x ∧ (adj t : Int) = a) ∧ ∀ t ∈ L, t.getLast? = some x → (adj t : Int) ≤ a
def Rel : Mo → List (List Int) → Prop
  | .both a b, L => Best L 1 a ∧ Best L (-1) b ∧ ∀ t ∈ L, t.getLast? = some 1 ∨ t.getLast? = some (-1)
  | .one s a, L => Best L s a ∧ ∀ t ∈ L, t.getLast? = some s
theorem fillS_mem {L : List (List Int)} {s : Int} {t' : List Int} : t' ∈ fillS L s ↔ ∃ t ∈ L, ∃ x ∈ opts s, t' = t ++ [x] := by
  unfold fillS
  rw [List.mem_flatten]
  constructor
  · rintro ⟨l, h1, h2⟩
    obtain ⟨t, ht, rfl⟩ := List.mem_map.mp h1
    obtain ⟨x, hx, rfl⟩ := List.mem_map.mp h2
    exact ⟨t, ht, x, hx, rfl⟩
  · rintro ⟨t, ht, x, hx, rfl⟩
    exact ⟨_, List.mem_map.mpr ⟨t, ht, rfl⟩, List.mem_map.mpr ⟨x, hx, rfl⟩⟩
theorem best_step {m : Mo} {L : List (List Int)} (h : Rel m L) {s x : Int} (hx : x ∈ opts s) : Best (fillS L s) x (m.at 1 x) := by
  have last : ∀ t' ∈ fillS L s, t'.getLast? = some x → ∃ t ∈ L, t' = t ++ [x] := fun t' ht e => by
    obtain ⟨t, h1, y, hy, rfl⟩ := fillS_mem.mp ht
    have : y = x := by simpa using e
    subst this
    exact ⟨t, h1, rfl⟩
  have up : ∀ t ∈ L, t ++ [x] ∈ fillS L s := fun t ht => fillS_mem.mpr ⟨t, ht, x, hx, rfl⟩
  cases m with
  | both a b =>
    obtain ⟨⟨⟨t1, m1, l1, a1⟩, u1⟩, ⟨⟨t2, m2, l2, a2⟩, u2⟩, al⟩ := h
    refine ⟨?_, fun t' ht e => ?_⟩
    · have e1 := adj_snoc t1 x 1 l1
      have e2 := adj_snoc t2 x (-1) l2
      rcases Int.le_total (a + 1 * ne1 1 x) (b + 1 * ne1 (-1) x) with z | z
      · refine ⟨t2 ++ [x], up _ m2, by simp, ?_⟩
        show _ = max (a + 1 * ne1 1 x) (b + 1 * ne1 (-1) x)
        rw [Int.max_eq_right z, e2, a2, Int.one_mul]
      · refine ⟨t1 ++ [x], up _ m1, by simp, ?_⟩
        show _ = max (a + 1 * ne1 1 x) (b + 1 * ne1 (-1) x)
        rw [Int.max_eq_left z, e1, a1, Int.one_mul]
    · obtain ⟨t, h3, rfl⟩ := last t' ht e
      show _ ≤ max (a + 1 * ne1 1 x) (b + 1 * ne1 (-1) x)
      rcases al t h3 with z | z
      · have := u1 t h3 z
        rw [adj_snoc t x 1 z]
        refine Int.le_trans ?_ (Int.le_max_left ..)
        omega
      · have := u2 t h3 z
        rw [adj_snoc t x (-1) z]
        refine Int.le_trans ?_ (Int.le_max_right ..)
        omega
  | one y a =>
    obtain ⟨⟨⟨t1, m1, l1, a1⟩, u1⟩, al⟩ := h
    refine ⟨⟨t1 ++ [x], up _ m1, by simp, ?_⟩, fun t' ht e => ?_⟩
    · show _ = a + 1 * ne1 y x
      rw [adj_snoc t1 x y l1, a1, Int.one_mul]
    · obtain ⟨t, h3, rfl⟩ := last t' ht e
      have := u1 t h3 (al t h3)
      show _ ≤ a + 1 * ne1 y x
      rw [adj_snoc t x y (al t h3)]
      omega
theorem rel_step {m : Mo} {L : List (List Int)} (h : Rel m L) (s : Int) : Rel (m.step 1 s) (fillS L s) := by
  unfold Mo.step
  by_cases h0 : s = 0
  · rw [if_pos h0]
    refine ⟨best_step h (by simp [opts, h0]), best_step h (by simp [opts, h0]), fun t' ht => ?_⟩
    obtain ⟨t, _, x, hx, rfl⟩ := fillS_mem.mp ht
    have : x = 1 ∨ x = -1 := by simpa [opts, h0] using hx
    rcases this with rfl | rfl <;> simp
  · rw [if_neg h0]
    refine ⟨best_step h (by simp [opts, h0]), fun t' ht => ?_⟩
    obtain ⟨t, _, x, hx, rfl⟩ := fillS_mem.mp ht
    have : x = s := by simpa [opts, h0] using hx
    subst this
    simp
theorem rel_go : ∀ (l : List Int) (i : Int) (m : Mo) (L : List (List Int)), 0 < i → Rel m L → Rel (filGo i l m) (fills l L)
  | [], _, _, _, _, h => h
  | s :: l, i, m, L, hi, h => by
    rw [filGo, if_pos hi]
    exact rel_go l (i + 1) _ (fillS L s) (by omega) (rel_step h s)
theorem rel_all (s : Int) (l : List Int) : Rel (filM (s :: l)) (fills (s :: l) [[]]) := by
  unfold filM
  rw [filGo, if_neg (by decide)]
  refine rel_go l _ _ (fillS [[]] s) (by decide) ?_
  have sing : ∀ x y : Int, Best [[x]] x 0 := fun x y => ⟨⟨[x], by simp, by simp, rfl⟩, fun t ht _ => by
    rw [List.mem_singleton.mp ht]
    exact Int.le_refl _⟩
  unfold Mo.step fillS opts
  by_cases h0 : s = 0
  · rw [if_pos h0, if_pos h0]
    show Rel (.both 0 0) [[1], [-1]]
    refine ⟨⟨⟨[1], by simp, by simp, rfl⟩, ?_⟩, ⟨⟨[-1], by simp, by simp, rfl⟩, ?_⟩, ?_⟩
    · intro t ht _
      simp only [List.mem_cons, List.not_mem_nil, or_false] at ht
      rcases ht with rfl | rfl <;> exact Int.le_refl _
    · intro t ht _
      simp only [List.mem_cons, List.not_mem_nil, or_false] at ht
      rcases ht with rfl | rfl <;> exact Int.le_refl _
    · intro t ht
      simp only [List.mem_cons, List.not_mem_nil, or_false] at ht
      rcases ht with rfl | rfl <;> simp
  · rw [if_neg h0, if_neg h0]
    show Rel (.one s (0 + 0 * ne1 1 s |> fun _ => max (0 + 0 * ne1 1 s) (0 + 0 * ne1 (-1) s))) [[s]]
    have : max (0 + 0 * ne1 1 s) (0 + 0 * ne1 (-1) s) = 0 := by simp
    simp only [this]
    exact ⟨sing s s, fun t ht => by rw [List.mem_singleton.mp ht]; rfl⟩
theorem rel_top {m : Mo} {L : List (List Int)} (h : Rel m L) : L ≠ [] ∧ maxL (L.map fun t => (adj t : Int)) = m.top := by
  have key : (∃ t ∈ L, (adj t : Int) = m.top) ∧ ∀ t ∈ L, (adj t : Int) ≤ m.top := by
    cases m with
    | both a b =>
      obtain ⟨⟨⟨t1, m1, l1, a1⟩, u1⟩, ⟨⟨t2, m2, l2, a2⟩, u2⟩, al⟩ := h
      refine ⟨?_, fun t ht => ?_⟩
      · show ∃ t ∈ L, (adj t : Int) = max a b
        rcases Int.le_total a b with z | z
        · exact ⟨t2, m2, by rw [Int.max_eq_right z, a2]⟩
        · exact ⟨t1, m1, by rw [Int.max_eq_left z, a1]⟩
      · show _ ≤ max a b
        rcases al t ht with z | z
        · exact Int.le_trans (u1 t ht z) (Int.le_max_left ..)
        · exact Int.le_trans (u2 t ht z) (Int.le_max_right ..)
    | one s a =>
      obtain ⟨⟨⟨t1, m1, l1, a1⟩, u1⟩, al⟩ := h
      exact ⟨⟨t1, m1, a1⟩, fun t ht => u1 t ht (al t ht)⟩
  obtain ⟨⟨t, ht, e⟩, u⟩ := key
  cases L with
  | nil => cases ht
  | cons t0 L =>
    refine ⟨by simp, ?_⟩
    rw [List.map_cons]
    refine (maxL_spec _ _ (m := m.top) ?_ ?_).symm
    · rw [← e, ← List.map_cons (f := fun t => (adj t : Int))]
      exact List.mem_map.mpr ⟨t, ht, rfl⟩
    · intro y hy
      rw [← List.map_cons (f := fun t => (adj t : Int))] at hy
      obtain ⟨u', hu, rfl⟩ := List.mem_map.mp hy
      exact u u' hu
/-! ### a row and the same turned at each second place -/
def altS : Bool → List Int → List Int
  | _, [] => []
  | b, s :: l => (if b = true then -s else s) :: altS (!b) l
def InvN (b : Bool) (m σ c : Int) : Mo → Prop
  | .both x y => if (if b = true then σ else -σ) = 1 then x = m - 1 - c ∧ y = m - 2 - c else y = m - 1 - c ∧ x = m - 2 - c
  | .one s x => s = (if b = true then σ else -σ) ∧ x = m - 1 - c
theorem invN_top {b : Bool} {m σ c : Int} {mo : Mo} (h : InvN b m σ c mo) : mo.top = m - 1 - c := by
  cases mo with
  | both x y =>
    simp only [InvN] at h
    show max x y = _
    rw [Int.max_def]
    by_cases q : (if b = true then σ else -σ) = 1
    · rw [if_pos q] at h
      split <;> omega
    · rw [if_neg q] at h
      split <;> omega
  | one s x => exact h.2
theorem invN_step {b : Bool} {m σ c : Int} {mo : Mo} (h : InvN b m σ c mo) (hσ : σ = 1 ∨ σ = -1) {s : Int} (hs : s = 0 ∨ s = 1 ∨ s = -1) :
    InvN (!b) (m + 1) (if s = 0 then σ else s) (c + (if s = 0 ∨ s = σ then 0 else 1)) (mo.step 1 (if b = true then -s else s)) := by
  cases mo with
  | both x y =>
    unfold InvN at h
    rcases hσ with rfl | rfl <;> rcases hs with rfl | rfl | rfl <;> cases b <;> simp [Mo.step, InvN, Mo.at, ne1] at h ⊢ <;> omega
  | one t x =>
    obtain ⟨h1, h2⟩ := h
    subst h1
    rcases hσ with rfl | rfl <;> rcases hs with rfl | rfl | rfl <;> cases b <;> simp [Mo.step, InvN, Mo.at, ne1] at h2 ⊢ <;> omega
theorem adj_cons2 (σ s : Int) (l : List Int) : (adj (σ :: s :: l) : Int) = (if s = σ then 0 else 1) + adj (s :: l) := by
  rw [adj]
  by_cases h : s = σ
  · simp [h]
  · simp [h, Ne.symm h]
theorem N_end : ∀ (l : List Int) (i : Int) (b : Bool) (m σ c : Int) (mo : Mo), 0 < i → InvN b m σ c mo → (σ = 1 ∨ σ = -1) → (∀ s ∈ l, s = 0 ∨ s = 1 ∨ s = -1) →
    (filGo i (altS b l) mo).top = m + l.length - 1 - (c + adj (σ :: l.filter (· ≠ 0)))
  | [], i, b, m, σ, c, mo, _, h, _, _ => by
    rw [altS, filGo, invN_top h]
    show _ = m + ((0 : Nat) : Int) - 1 - (c + ((adj [σ] : Nat) : Int))
    rw [adj] <;> simp
  | s :: l, i, b, m, σ, c, mo, hi, h, hσ, hl => by
    have hs := hl s (List.mem_cons_self ..)
    have st := invN_step h hσ hs
    rw [altS, filGo, if_pos hi]
    have k := N_end l (i + 1) (!b) (m + 1) _ _ _ (by omega) st (by
      by_cases z : s = 0
      · rw [if_pos z]; exact hσ
      · rw [if_neg z]; rcases hs with q | q
        · exact absurd q z
        · exact q) (fun t ht => hl t (List.mem_cons_of_mem _ ht))
    rw [k]
    by_cases z : s = 0
    · subst z
      rw [List.filter_cons_of_neg (by simp)]
      simp
      omega
    · rw [List.filter_cons_of_pos (by simp [z]), adj_cons2]
      simp only [z, if_false, false_or, List.length_cons]
      split <;> omega
theorem Z_end : ∀ (l : List Int) (i : Int) (b : Bool) (m : Int), 0 < i → (∀ s ∈ l, s = 0 ∨ s = 1 ∨ s = -1) → l.filter (· ≠ 0) ≠ [] →
    (filGo i (altS b l) (.both (m - 1) (m - 1))).top = m + l.length - 1 - adj (l.filter (· ≠ 0))
  | [], _, _, _, _, _, h => absurd rfl h
  | s :: l, i, b, m, hi, hl, h => by
    have hs := hl s (List.mem_cons_self ..)
    rw [altS, filGo, if_pos hi]
    by_cases z : s = 0
    · subst z
      have st : (Mo.both (m - 1) (m - 1)).step 1 (if b = true then -0 else 0) = .both (m + 1 - 1) (m + 1 - 1) := by
        have z2 : (if b = true then -0 else (0 : Int)) = 0 := by cases b <;> rfl
        rw [z2]
        simp [Mo.step, Mo.at, ne1]
        omega
      rw [st]
      rw [List.filter_cons_of_neg (by simp)] at h ⊢
      rw [Z_end l (i + 1) (!b) (m + 1) (by omega) (fun t ht => hl t (List.mem_cons_of_mem _ ht)) h]
      simp only [List.length_cons]
      omega
    · have hs' : s = 1 ∨ s = -1 := by rcases hs with q | q; exact absurd q z; exact q
      have st : InvN (!b) (m + 1) s 0 ((Mo.both (m - 1) (m - 1)).step 1 (if b = true then -s else s)) := by
        rcases hs' with rfl | rfl <;> cases b <;> simp [Mo.step, InvN, Mo.at, ne1] <;> omega
      rw [N_end l (i + 1) (!b) (m + 1) s 0 _ (by omega) st hs' (fun t ht => hl t (List.mem_cons_of_mem _ ht)), List.filter_cons_of_pos (by simp [z])]
      simp only [List.length_cons]
      omega
theorem turn_all (l : List Int) (hl : ∀ s ∈ l, s = 0 ∨ s = 1 ∨ s = -1) (h : l.filter (· ≠ 0) ≠ []) : chS l + (filM (altS false l)).top = l.length - 1 := by
  cases l with
  | nil => exact absurd rfl h
  | cons s l =>
    have hs := hl s (List.mem_cons_self ..)
    have hl' : ∀ t ∈ l, t = 0 ∨ t = 1 ∨ t = -1 := fun t ht => hl t (List.mem_cons_of_mem _ ht)
    unfold chS
    rw [if_neg h]
    unfold filM
    rw [altS, filGo, if_neg (by decide)]
    simp only [Bool.false_eq_true, if_false, Bool.not_false]
    by_cases z : s = 0
    · subst z
      have st : (Mo.both 0 0).step 0 0 = .both (1 - 1) (1 - 1) := by simp [Mo.step, Mo.at]
      rw [List.filter_cons_of_neg (by simp)] at h ⊢
      rw [st, Z_end l _ true 1 (by decide) hl' h]
      simp only [List.length_cons]
      omega
    · have hs' : s = 1 ∨ s = -1 := by rcases hs with q | q; exact absurd q z; exact q
      have st : InvN true 1 s 0 ((Mo.both 0 0).step 0 s) := by
        rcases hs' with rfl | rfl <;> simp [Mo.step, InvN, Mo.at]
      rw [N_end l _ true 1 s 0 _ (by decide) st hs' hl', List.filter_cons_of_pos (by simp [z])]
      simp only [List.length_cons]
      omega
end TP

set_option Elab.async false
set_option linter.all false
set_option maxRecDepth 100000
set_option maxHeartbeats 4000000
namespace TP
open PySem L2
/-! ### rows: what is let, what is refused -/
abbrev It := D × R
def sgs (l : List It) : List Int := l.map fun t => sg t.2.1
theorem free_comp (l : List It) (hl : l.length ≤ 8) (hf : ∀ t ∈ l, Fr t.1 t.2) {S : D} (hS : asSeq S = some (l.map (·.1))) (dr : Dr) :
    sComp (sItems (sVar 0)) (gN 1) cYes (sCallF f_is_free (sCons (sVar 1) sNil)) [1] [.val S, .un] dr = .ok ((l.map fun _ => true).map D.bl) dr := by
  have k := comp_map (it := sItems (sVar 0)) (b := gN 1) (e := sCallF f_is_free (sCons (sVar 1) sNil)) (vs := [1]) (ρ := [.val S, .un]) (dr := dr) (dr0 := dr) l (·.1) (fun _ => .bl true) (sItems_ok (sVar_ok rfl) hS) (sz_le (by omega)) (fun t ht => ⟨_, rfl, (call1 (F := f_is_free) (x := t.1) (dr1 := dr) rfl).trans (is_free_fr (hf t ht) dr)⟩)
  rw [k, List.map_map]
  rfl
theorem need_ok (l : List It) (h1 : 1 ≤ l.length) (hl : l.length ≤ 8) (hf : ∀ t ∈ l, Fr t.1 t.2) {S : D} (hS : S = .lst (l.map (·.1)) ∨ S = .tup (l.map (·.1))) (dr : Dr) : f_need_any_row [S] dr = .ok .non dr := by
  rw [e_need_any_row]
  refine fD_nx (ρ := [.val S, .un]) ?_
  unfold b_need_any_row
  have hA : asSeq S = some (l.map (·.1)) := by rcases hS with rfl | rfl <;> rfl
  have iS : isAny [isB .list, isB .tuple] S = some true := by rcases hS with rfl | rfl <;> rfl
  have lS : dLen [S] = some (.int l.length) := by rcases hS with rfl | rfl <;> (show some (D.int (l.map (·.1)).length) = _; rw [List.length_map])
  refine (sSeq_nx (ρ' := [.val S, .un]) (dr' := dr) ?_).trans ?_
  · have g1 : (1 : Int) ≤ l.length := by omega
    have g2 : (l.length : Int) ≤ 8 := by omega
    simp [sIfS, sT, sOr, sNot, sUn, dNot, sIs, sVar, iS, sChain, sC, sCall, sCons, sNil, lS, dLe_int, g1, g2, sNext]
  · have c1 := free_comp l hl hf hA dr
    have al := dAll_bls (l.map fun _ => true)
    have : (l.map fun _ => true).all id = true := by simp
    rw [this] at al
    have k := sCall1 (h := dAll) (sL_ok c1) al
    simp only [sIfS, sT, sNot, sUn, k, bind_ok, dNot, lift_some]
    rfl
theorem need_no_list {S : D} (h1 : isB .list S = some false) (h2 : isB .tuple S = some false) (dr : Dr) : f_need_any_row [S] dr = .exc ⟨1, [], []⟩ dr := by
  rw [e_need_any_row]
  refine fD_exc (sSeq_exc ?_)
  simp [sIfS, sT, sOr, sNot, sUn, dNot, sIs, sVar, isAny, h1, h2, sRaise]
theorem need_no_len {S : D} {n : Nat} (iS : isAny [isB .list, isB .tuple] S = some true) (lS : dLen [S] = some (.int n)) (hn : n = 0 ∨ 8 < n) (dr : Dr) : f_need_any_row [S] dr = .exc ⟨1, [], []⟩ dr := by
  rw [e_need_any_row]
  refine fD_exc (sSeq_exc ?_)
  rcases hn with rfl | hn
  · simp [sIfS, sT, sOr, sNot, sUn, dNot, sIs, sVar, iS, sChain, sC, sCall, sCons, sNil, lS, dLe_int, sRaise]
  · have g1 : (1 : Int) ≤ n := by omega
    have g2 : ¬ (n : Int) ≤ 8 := by omega
    simp [sIfS, sT, sOr, sNot, sUn, dNot, sIs, sVar, iS, sChain, sC, sCall, sCons, sNil, lS, dLe_int, g1, g2, sRaise]
theorem need_no_item (l : List (D × Bool)) (h1 : 1 ≤ l.length) (hl : l.length ≤ 8) (hf : ∀ p ∈ l, ∀ dr, f_is_free [p.1] dr = .ok (.bl p.2) dr) (ha : (l.map (·.2)).all id = false) (dr : Dr) : f_need_any_row [.lst (l.map (·.1))] dr = .exc ⟨1, [], []⟩ dr := by
  rw [e_need_any_row]
  refine fD_exc ?_
  unfold b_need_any_row
  have lS : dLen [.lst (l.map (·.1))] = some (.int l.length) := by show some (D.int (l.map (·.1)).length) = _; rw [List.length_map]
  refine (sSeq_nx (ρ' := [.val (.lst (l.map (·.1))), .un]) (dr' := dr) ?_).trans ?_
  · have g1 : (1 : Int) ≤ l.length := by omega
    have g2 : (l.length : Int) ≤ 8 := by omega
    simp [sIfS, sT, sOr, sNot, sUn, dNot, sIs, sVar, isAny, isB, sChain, sC, sCall, sCons, sNil, lS, dLe_int, g1, g2, sNext]
  · have k := comp_map (it := sItems (sVar 0)) (b := gN 1) (e := sCallF f_is_free (sCons (sVar 1) sNil)) (vs := [1]) (ρ := [.val (.lst (l.map (·.1))), .un]) (dr := dr) (dr0 := dr) l (·.1) (fun p => .bl p.2) (sItems_ok (sVar_ok rfl) rfl) (sz_le (by omega)) (fun t ht => ⟨_, rfl, (call1 (F := f_is_free) (x := t.1) (dr1 := dr) rfl).trans (hf t ht dr)⟩)
    have al := dAll_bls (l.map (·.2))
    rw [ha, List.map_map] at al
    have k2 := sCall1 (h := dAll) (sL_ok k) al
    simp only [sIfS, sT, sNot, sUn, k2, bind_ok, dNot, lift_some]
    rfl
theorem asr_comp (l : List It) (hl : l.length ≤ 8) (hf : ∀ t ∈ l, Fr t.1 t.2) {S : D} (hS : asSeq S = some (l.map (·.1))) (dr : Dr) :
    sComp (sItems (sVar 0)) (gN 1) cYes (sCallF f_as_ratio (sCons (sVar 1) sNil)) [1] [.val S, .un] dr = .ok ((l.map (·.2)).map prR) dr := by
  have k := comp_map (it := sItems (sVar 0)) (b := gN 1) (e := sCallF f_as_ratio (sCons (sVar 1) sNil)) (vs := [1]) (ρ := [.val S, .un]) (dr := dr) (dr0 := dr) l (·.1) (fun t => prR t.2) (sItems_ok (sVar_ok rfl) hS) (sz_le (by omega)) (fun t ht => ⟨_, rfl, (call1 (F := f_as_ratio) (x := t.1) (dr1 := dr) rfl).trans (as_ratio_fr (hf t ht) dr)⟩)
  rw [k, List.map_map]
  rfl
section
variable (l : List It) (h1 : 1 ≤ l.length) (hl : l.length ≤ 8) (hf : ∀ t ∈ l, Fr t.1 t.2) {S : D} (hS : S = .lst (l.map (·.1)) ∨ S = .tup (l.map (·.1))) (dr : Dr)
include h1 hl hf hS
theorem changes_ok : f_changes [S] dr = .ok (.int (chS (sgs l))) dr := by
  rw [e_changes]
  refine fD_rt ?_
  unfold b_changes
  have hA : asSeq S = some (l.map (·.1)) := by rcases hS with rfl | rfl <;> rfl
  refine (sSeq_nx (ρ' := [.val S, .un]) (dr' := dr) ?_).trans ?_
  · have k := (call1 (F := f_need_any_row) (a := sVar 0) (ρ := [.val S, .un]) (x := S) (dr := dr) (dr1 := dr) rfl).trans (need_ok l h1 hl hf hS dr)
    unfold sDrop
    rw [show sCallF f_need_any_row (sCons (sVar 0) sNil) (List.map Sl.val [S] ++ List.replicate (2 - [S].length) Sl.un) dr = _ from k]
    rfl
  · have c := changes_in_ok (l.map (·.2)) (by rw [List.length_map]; omega) dr
    rw [show (l.map (·.2)).map (fun r => sg r.1) = sgs l by rw [List.map_map]; rfl] at c
    exact sRet_ok ((call1 (F := f_changes_in) (sL_ok (asr_comp l hl hf hA dr))).trans c)
theorem filled_ok : f_filled_changes [S] dr = .ok (.int (filM (sgs l)).top) dr := by
  rw [e_filled_changes]
  refine fD_rt ?_
  unfold b_filled_changes
  have hA : asSeq S = some (l.map (·.1)) := by rcases hS with rfl | rfl <;> rfl
  refine (sSeq_nx (ρ' := [.val S, .un]) (dr' := dr) ?_).trans ?_
  · have k := (call1 (F := f_need_any_row) (a := sVar 0) (ρ := [.val S, .un]) (x := S) (dr := dr) (dr1 := dr) rfl).trans (need_ok l h1 hl hf hS dr)
    unfold sDrop
    rw [show sCallF f_need_any_row (sCons (sVar 0) sNil) (List.map Sl.val [S] ++ List.replicate (2 - [S].length) Sl.un) dr = _ from k]
    rfl
  · have c := filled_in_ok (l.map (·.2)) dr
    rw [show (l.map (·.2)).map (fun r => sg r.1) = sgs l by rw [List.map_map]; rfl] at c
    exact sRet_ok ((call1 (F := f_filled_in) (sL_ok (asr_comp l hl hf hA dr))).trans c)
end
theorem changes_no {S : D} {dr : Dr} (h : f_need_any_row [S] dr = .exc ⟨1, [], []⟩ dr) : f_changes [S] dr = .exc ⟨1, [], []⟩ dr := by
  rw [e_changes]
  refine fD_exc (sSeq_exc ?_)
  have k := (call1 (F := f_need_any_row) (a := sVar 0) (ρ := [.val S, .un]) (x := S) (dr := dr) (dr1 := dr) rfl).trans h
  unfold sDrop
  rw [show sCallF f_need_any_row (sCons (sVar 0) sNil) (List.map Sl.val [S] ++ List.replicate (2 - [S].length) Sl.un) dr = _ from k]
  rfl
theorem filled_no {S : D} {dr : Dr} (h : f_need_any_row [S] dr = .exc ⟨1, [], []⟩ dr) : f_filled_changes [S] dr = .exc ⟨1, [], []⟩ dr := by
  rw [e_filled_changes]
  refine fD_exc (sSeq_exc ?_)
  have k := (call1 (F := f_need_any_row) (a := sVar 0) (ρ := [.val S, .un]) (x := S) (dr := dr) (dr1 := dr) rfl).trans h
  unfold sDrop
  rw [show sCallF f_need_any_row (sCons (sVar 0) sNil) (List.map Sl.val [S] ++ List.replicate (2 - [S].length) Sl.un) dr = _ from k]
  rfl
end TP

set_option Elab.async false
set_option linter.all false
set_option maxRecDepth 100000
set_option maxHeartbeats 4000000
namespace TP
open PySem L2
def someL : List D := [.int 0, pr 0 1, .int 0, .int 1, .int (-1), pr 1 2, pr (-1) 3, .int 100000000000000000000, pr (-100000000000000000000) 3, .int (-5)]
theorem some_fr {d : D} (h : d ∈ someL) : ∃ r, Fr d r := by
  simp only [someL, List.mem_cons, List.not_mem_nil, or_false] at h
  rcases h with rfl | rfl | rfl | rfl | rfl | rfl | rfl | rfl | rfl | rfl
  · exact ⟨_, .int _⟩
  · exact ⟨_, .pr (by decide) (by decide)⟩
  · exact ⟨_, .int _⟩
  · exact ⟨_, .int _⟩
  · exact ⟨_, .int _⟩
  · exact ⟨_, .pr (by decide) (by decide)⟩
  · exact ⟨_, .pr (by decide) (by decide)⟩
  · exact ⟨_, .int _⟩
  · exact ⟨_, .pr (by decide) (by decide +kernel)⟩
  · exact ⟨_, .int _⟩
theorem its_of : ∀ m : List D, (∀ d ∈ m, d ∈ someL) → ∃ l : List It, l.map (·.1) = m ∧ ∀ t ∈ l, Fr t.1 t.2
  | [], _ => ⟨[], rfl, by simp⟩
  | d :: m, h => by
    obtain ⟨r, f⟩ := some_fr (h d (List.mem_cons_self ..))
    obtain ⟨l, e, k⟩ := its_of m fun x hx => h x (List.mem_cons_of_mem _ hx)
    refine ⟨(d, r) :: l, by rw [List.map_cons, e], fun t ht => ?_⟩
    rcases List.mem_cons.mp ht with rfl | ht
    · exact f
    · exact k t ht
theorem Fr.self {d : D} {r : R} (f : Fr d r) : Fr (prR r) r := by
  cases f with
  | int a => exact .pr (show (0 : Int) < 1 by decide) (by simp)
  | pr h0 h1 => exact .pr h0 h1
theorem Fr.neg {r : R} (f : Fr (prR r) r) : Fr (prR (0 - r.1, r.2)) (0 - r.1, r.2) := by
  cases f with
  | pr h0 h1 => exact .pr h0 (by simpa using h1)
/-! ### turned -/
def enumI : Int → List R → List (Int × R)
  | _, [] => []
  | i, r :: l => (i, r) :: enumI (i + 1) l
theorem enumI_eq : ∀ (i : Int) (l : List R), enumL i (l.map prR) = (enumI i l).map fun p => .tup [.int p.1, prR p.2]
  | _, [] => rfl
  | i, r :: l => by simp only [List.map_cons, enumL, enumI, enumI_eq (i + 1) l]
theorem enumI_len : ∀ (i : Int) (l : List R), (enumI i l).length = l.length
  | _, [] => rfl
  | i, r :: l => by simp only [enumI, List.length_cons, enumI_len (i + 1) l]
def tR (p : Int × R) : R := if p.1.fmod 2 = 0 then p.2 else (0 - p.2.1, p.2.2)
theorem sg_neg (a : Int) : sg (0 - a) = - sg a := by unfold sg; split <;> split <;> (try split) <;> (try split) <;> omega
theorem turn_sg : ∀ (l : List R) (i : Int) (b : Bool), 0 ≤ i → (b = true ↔ i.fmod 2 ≠ 0) → (enumI i l).map (fun p => sg (tR p).1) = altS b (l.map fun r => sg r.1)
  | [], _, _, _, _ => rfl
  | r :: l, i, b, h0, hb => by
    have e : i.fmod 2 = i % 2 := Int.fmod_eq_emod_of_nonneg _ (by omega)
    have e2 : (i + 1).fmod 2 = (i + 1) % 2 := Int.fmod_eq_emod_of_nonneg _ (by omega)
    have hb' : (!b) = true ↔ (i + 1).fmod 2 ≠ 0 := by
      rw [e2]
      rw [e] at hb
      cases b
      · have : i % 2 = 0 := by
          rcases (show i % 2 = 0 ∨ i % 2 = 1 by omega) with z | z
          · exact z
          · exact absurd (hb.mpr (by omega)) (by decide)
        simp
        omega
      · have := hb.mp rfl
        simp
        omega
    rw [enumI, List.map_cons, List.map_cons, altS, turn_sg l (i + 1) (!b) (by omega) hb']
    congr 1
    unfold tR
    by_cases z : i.fmod 2 = 0
    · have : b = false := by cases b; rfl; exact absurd z (hb.mp rfl)
      simp [z, this]
    · have : b = true := hb.mpr z
      simp only [z, if_false, this, if_true]
      exact sg_neg _
theorem law_signed_ok (i : Int) (r : R) (dr : Dr) : f_law_signed [prR r, .int i] dr = .ok (prR (tR (i, r))) dr := by
  rw [e_law_signed]
  refine fD_rt ?_
  unfold b_law_signed tR
  by_cases z : i.fmod 2 = 0 <;> simp [sRet, sIf, sT, sBin, sCall, sCons, sVar, sNil, dInt, sC, dMod, dEq_int, z, sTup, dSub, ix0, ix1, sz2]
/-! ### near values -/
def ndL : List D := [.non, .bl true, pr 2 4, pr 1 0, pr 1 (-2), .str "1", .lst [.int 1, .int 2], .tup [.int 1]]
theorem nd_no {d : D} (h : d ∈ ndL) (dr : Dr) : f_is_free [d] dr = .ok (.bl false) dr := by
  simp only [ndL, List.mem_cons, List.not_mem_nil, or_false] at h
  rcases h with rfl | rfl | rfl | rfl | rfl | rfl | rfl | rfl
  · exact is_free_of (is_num _ _ (.inr ⟨rfl, rfl⟩) dr) (rat_no rfl dr)
  · exact is_free_of (is_num _ false (.inl ⟨rfl, rfl⟩) dr) (rat_no rfl dr)
  · exact is_free_of (y := false) (is_number_tup _ dr) (by rw [is_ratio_pr]; rfl)
  · exact is_free_of (y := false) (is_number_tup _ dr) (by rw [is_ratio_pr]; rfl)
  · exact is_free_of (y := false) (is_number_tup _ dr) (by rw [is_ratio_pr]; rfl)
  · exact is_free_of (is_num _ _ (.inr ⟨rfl, rfl⟩) dr) (rat_no rfl dr)
  · exact is_free_of (is_num _ _ (.inr ⟨rfl, rfl⟩) dr) (rat_no rfl dr)
  · exact is_free_of (is_number_tup _ dr) (rat_len (by decide) dr)
def othL (d : D) : List D := [.lst [], .tup [], .non, .int 5, .str "rows", .dic [] [], .lst (List.replicate 9 (.int 0)), d]
theorem oth_no {d : D} {ks vs} (h : d ∈ othL (.dic ks vs)) (dr : Dr) : f_need_any_row [d] dr = .exc ⟨1, [], []⟩ dr := by
  simp only [othL, List.mem_cons, List.not_mem_nil, or_false] at h
  rcases h with rfl | rfl | rfl | rfl | rfl | rfl | rfl | rfl
  · exact need_no_len (n := 0) rfl rfl (.inl rfl) dr
  · exact need_no_len (n := 0) rfl rfl (.inl rfl) dr
  · exact need_no_list rfl rfl dr
  · exact need_no_list rfl rfl dr
  · exact need_no_list rfl rfl dr
  · exact need_no_list rfl rfl dr
  · exact need_no_len (n := 9) rfl rfl (.inr (by decide)) dr
  · exact need_no_list rfl rfl dr
theorem near_no (a b : List It) (ha : ∀ t ∈ a, Fr t.1 t.2) (hb : ∀ t ∈ b, Fr t.1 t.2) {o : D} (ho : o ∈ ndL) (hn : a.length + b.length ≤ 7) (dr : Dr) : f_need_any_row [.lst (a.map (·.1) ++ [o] ++ b.map (·.1))] dr = .exc ⟨1, [], []⟩ dr := by
  have k := need_no_item (a.map (fun t => (t.1, true)) ++ [(o, false)] ++ b.map (fun t => (t.1, true))) (by simp; omega) (by simp; omega) (fun p hp dr => by
    rcases List.mem_append.mp hp with hp | hp
    · rcases List.mem_append.mp hp with hp | hp
      · obtain ⟨t, ht, rfl⟩ := List.mem_map.mp hp
        exact is_free_fr (ha t ht) dr
      · rw [List.mem_singleton.mp hp]
        exact nd_no ho dr
    · obtain ⟨t, ht, rfl⟩ := List.mem_map.mp hp
      exact is_free_fr (hb t ht) dr) (by simp) dr
  have e : (a.map (fun t => (t.1, true)) ++ [(o, false)] ++ b.map (fun t => (t.1, true))).map (·.1) = a.map (·.1) ++ [o] ++ b.map (·.1) := by
    simp [List.map_append, List.map_map, Function.comp_def]
  rw [e] at k
  exact k
theorem thing_step {S : D} {ρ : List Sl} {dr : Dr} (h9 : ρ[9]? = some (.val S)) (h : f_need_any_row [S] dr = .exc ⟨1, [], []⟩ dr) :
    sIfS (sOr (sNot (sIs (isE errR 2 1) (sCaught isPl (sCallF f_changes (sCons (sVar 9) sNil))))) (sNot (sIs (isE errR 2 1) (sCaught isPl (sCallF f_filled_changes (sCons (sVar 9) sNil)))))) (sRet (sC (.bl false))) sNext ρ dr = .ok (.nx ρ) dr := by
  have k1 := (call1 (F := f_changes) (a := sVar 9) (ρ := ρ) (x := S) (dr := dr) (dr1 := dr) (sVar_ok h9)).trans (changes_no h)
  have k2 := (call1 (F := f_filled_changes) (a := sVar 9) (ρ := ρ) (x := S) (dr := dr) (dr1 := dr) (sVar_ok h9)).trans (filled_no h)
  have ip : isPl 1 = true := rfl
  have ie : isE errR 2 1 (.err 1 [] []) = some true := rfl
  simp [sIfS, sT, sOr, sNot, sUn, dNot, sIs, sCaught, k1, k2, ip, ie, sNext]
theorem dOks_pr (n : Nat) : ∀ l : List R, dOks (n + 1) (l.map prR) = true
  | [] => by simp [dOks]
  | r :: l => by
    have := dOks_pr n l
    simp only [List.map_cons, dOks, Bool.and_eq_true]
    exact ⟨by simp [dOk, dOks], this⟩
theorem right_ok (dr : Dr) : ∃ dr', f_law_right [.draw] dr = .ok (.bl true) dr' := by
  obtain ⟨r0, dr1, e1, hr0, hr1⟩ := f_take dr (m := 8) (by decide) (by decide)
  let ρ1 : List Sl := [.val .draw, .val (.lst someL), .un, .un, .un, .un, .un, .un, .un, .un, .un]
  obtain ⟨n, hn⟩ : ∃ n : Nat, (n : Int) = 1 + r0 := ⟨(1 + r0).toNat, by omega⟩
  obtain ⟨RS, dr2, c2, l2, q2⟩ := comp_draw (it := sRange1 (sBin dAdd (sC (.int 1)) (sCallF f_law_take (sCons (sVar 0) (sCons (sC (.int 8)) sNil))))) (b := gN 7) (e := sCallF f_law_pick (sCons (sVar 0) (sCons (sVar 1) sNil))) (vs := [7]) (ρ := ρ1) (dr := dr1) (dr0 := dr) (fun d => d ∈ someL)
    (rangeL 0 (1 + r0).toNat) (range1_ok (sBin_ok (x := .int 1) (y := .int r0) rfl ((call2 (F := f_law_take) (x := .draw) (y := .int 8) (dr1 := dr) (dr2 := dr) rfl rfl).trans e1) rfl) (by omega) (by omega)) (sz_le (by rw [rangeL_length]; omega)) (fun x hx => ⟨_, rfl, fun dr => by
      obtain ⟨d, dr', e, m⟩ := pick_ok dr (l := someL) (by simp [someL]) (by simp [someL])
      exact ⟨d, dr', (call2 (F := f_law_pick) (x := .draw) (y := .lst someL) (dr1 := dr) (dr2 := dr) rfl rfl).trans e, m⟩⟩)
  obtain ⟨l, hl, hf⟩ := its_of RS q2
  have hn1 : l.length = n := by
    have : (l.map (·.1)).length = RS.length := by rw [hl]
    rw [List.length_map] at this
    rw [this, l2, rangeL_length]
    omega
  have h1 : 1 ≤ l.length := by omega
  have h8 : l.length ≤ 8 := by omega
  let rs : List R := l.map (·.2)
  have hsg : rs.map (fun r => sg r.1) = sgs l := by simp only [rs, List.map_map]; rfl
  have hrs : rs.length = n := by simp only [rs, List.length_map]; exact hn1
  obtain ⟨A, hA⟩ : ∃ A, A = chS (sgs l) := ⟨_, rfl⟩
  obtain ⟨B, hB⟩ : ∃ B, B = (filM (sgs l)).top := ⟨_, rfl⟩
  have lc := fun dr => law_changes_ok rs (by omega) dr
  have cns : ∃ s t, sgs l = s :: t := by
    cases l with
    | nil => simp at h1
    | cons x l => exact ⟨_, _, rfl⟩
  have rt : fills (sgs l) [[]] ≠ [] ∧ maxL ((fills (sgs l) [[]]).map fun t => (adj t : Int)) = (filM (sgs l)).top := by
    obtain ⟨s, t, e⟩ := cns
    rw [e]
    exact rel_top (rel_all s t)
  have lf := fun dr => law_filled_ok rs (by omega) (by rw [hsg]; exact rt.1) dr
  simp only [hsg] at lc lf
  rw [rt.2] at lf
  rw [← hA] at lc
  rw [← hB] at lf
  have pc := fun (S : D) (hS : S = .lst RS ∨ S = .tup RS) dr => changes_ok l h1 h8 hf (S := S) (by rw [hl]; exact hS) dr
  have pf := fun (S : D) (hS : S = .lst RS ∨ S = .tup RS) dr => filled_ok l h1 h8 hf (S := S) (by rw [hl]; exact hS) dr
  have lt' : ∀ (rs' : List R), rs'.length = n → (∀ r ∈ rs', Fr (prR r) r) → ∀ (S : D), (S = .lst (rs'.map prR) ∨ S = .tup (rs'.map prR)) → ∀ dr, f_filled_changes [S] dr = .ok (.int (filM (rs'.map fun r => sg r.1)).top) dr := fun rs' e1 e2 S hS dr => by
    have k := filled_ok (rs'.map fun r => (prR r, r)) (by rw [List.length_map]; omega) (by rw [List.length_map]; omega) (fun t ht => by
      obtain ⟨r, hr, rfl⟩ := List.mem_map.mp ht
      exact e2 r hr) (S := S) (by rw [List.map_map]; exact hS) dr
    rw [k]
    congr 4
    unfold sgs
    rw [List.map_map]
    rfl
  have frs : ∀ r ∈ rs, Fr (prR r) r := fun r hr => by
    obtain ⟨t, ht, rfl⟩ := List.mem_map.mp hr
    exact (hf t ht).self
  let ts : List R := (enumI 0 rs).map tR
  have hts : ts.length = n := by simp only [ts, List.length_map, enumI_len]; exact hrs
  have mem_enum : ∀ (l : List R) (i : Int) (p : Int × R), p ∈ enumI i l → p.2 ∈ l := by
    intro l
    induction l with
    | nil => intro i p h; cases h
    | cons r l ih =>
      intro i p h
      rcases List.mem_cons.mp h with rfl | h
      · exact List.mem_cons_self ..
      · exact List.mem_cons_of_mem _ (ih _ p h)
  have fts : ∀ r ∈ ts, Fr (prR r) r := fun r hr => by
    obtain ⟨p, hp, rfl⟩ := List.mem_map.mp hr
    have := frs _ (mem_enum rs 0 p hp)
    unfold tR
    split
    · exact this
    · exact this.neg
  have sts : ts.map (fun r => sg r.1) = altS false (sgs l) := by
    simp only [ts, List.map_map]
    rw [← hsg]
    exact turn_sg rs 0 false (by decide) (by decide)
  have hsc : ∀ s ∈ sgs l, s = 0 ∨ s = 1 ∨ s = -1 := fun s hs => by
    obtain ⟨t, _, rfl⟩ := List.mem_map.mp hs
    exact sg_cases _
  obtain ⟨at', dr3, e3, a0, a1⟩ := f_take dr2 (m := (n : Int)) (by omega) (by omega)
  obtain ⟨N, hN⟩ : ∃ N : Int, N = n := ⟨_, rfl⟩
  rw [← hN] at e3 a1
  obtain ⟨o, dr4, e4, mo⟩ := pick_ok dr3 (l := ndL) (by simp [ndL]) (by simp [ndL])
  obtain ⟨dd, hdd, ks, vs, hdd2⟩ : ∃ dd, sDict [((sC (.int 0)), (sC (.int 1)))] = (fun _ dr => .ok dd dr) ∧ ∃ ks vs, dd = .dic ks vs := ⟨dicOf (mkD [(.inl 0, .int 1)]), rfl, _, _, rfl⟩
  obtain ⟨th, dr5, e5, mt⟩ := pick_ok dr4 (l := othL dd) (by simp [othL]) (by simp [othL])
  refine ⟨dr5, ?_⟩
  rw [e_law_right]
  refine fD_rt ?_
  unfold b_law_right
  refine (sSeq_nx (ρ' := ρ1) (dr' := dr) ?_).trans ?_
  · have pw : dPow (.int 10) (.int 20) = some (.int 100000000000000000000) := (dPow_ok (by decide) (by decide) (by decide)).trans (by simp)
    have z10 : (10 : Nat) ≤ sizeLine := sz_le (by decide)
    refine setV_ok (sL_ok ?_)
    simp [sLst, sCons, sNil, sC, sTup, sUn, dNeg, sBin, pw, sz2, z10, someL]
  refine (sSeq_nx (ρ' := [.val .draw, .val (.lst someL), .val (.lst RS), .un, .un, .un, .un, .un, .un, .un, .un]) (dr' := dr2) (setV_ok (sL_ok c2))).trans ?_
  have c3 : sComp (sItems (sVar 2)) (gN 10) cYes (sCallF f_law_ratio (sCons (sVar 10) sNil)) [10] [.val .draw, .val (.lst someL), .val (.lst RS), .un, .un, .un, .un, .un, .un, .un, .un] dr2 = .ok (rs.map prR) dr2 := by
    have k := comp_map (it := sItems (sVar 2)) (b := gN 10) (e := sCallF f_law_ratio (sCons (sVar 10) sNil)) (vs := [10]) (ρ := [.val .draw, .val (.lst someL), .val (.lst RS), .un, .un, .un, .un, .un, .un, .un, .un]) (dr := dr2) (dr0 := dr2) l (·.1) (fun t => prR t.2) (by rw [hl]; rfl) (sz_le (by omega)) (fun t ht => ⟨_, rfl, (call1 (F := f_law_ratio) (x := t.1) (dr1 := dr2) rfl).trans (law_ratio_fr (hf t ht) dr2)⟩)
    rw [k]
    simp only [rs, List.map_map]
    rfl
  refine (sSeq_nx (ρ' := [.val .draw, .val (.lst someL), .val (.lst RS), .val (.lst (rs.map prR)), .un, .un, .un, .un, .un, .un, .un]) (dr' := dr2) (setV_ok (sL_ok c3))).trans ?_
  refine (sSeq_nx (ρ' := [.val .draw, .val (.lst someL), .val (.lst RS), .val (.lst (rs.map prR)), .val (.lst [.int A, .int B]), .un, .un, .un, .un, .un, .un]) (dr' := dr2) ?_).trans ?_
  · have k1 := (call1 (F := f_law_changes) (a := sVar 3) (ρ := [.val .draw, .val (.lst someL), .val (.lst RS), .val (.lst (rs.map prR)), .un, .un, .un, .un, .un, .un, .un]) (x := .lst (rs.map prR)) (dr := dr2) (dr1 := dr2) rfl).trans (lc dr2)
    have k2 := (call1 (F := f_law_filled) (a := sVar 3) (ρ := [.val .draw, .val (.lst someL), .val (.lst RS), .val (.lst (rs.map prR)), .un, .un, .un, .un, .un, .un, .un]) (x := .lst (rs.map prR)) (dr := dr2) (dr1 := dr2) rfl).trans (lf dr2)
    refine setV_ok (sL_ok ?_)
    generalize sCallF f_law_changes = G1 at k1 ⊢
    generalize sCallF f_law_filled = G2 at k2 ⊢
    generalize rs.map prR = U at k1 k2 ⊢
    simp [sLst, sCons, sNil, k1, k2, sz2]
  let ρ4 : List Sl := [.val .draw, .val (.lst someL), .val (.lst RS), .val (.lst (rs.map prR)), .val (.lst [.int A, .int B]), .un, .un, .un, .un, .un, .un]
  refine (sSeq_nx (says_step (d := .lst [.int A, .int B, .int A, .int B]) ?_ ?_ (by simp [dOk, dOks]) (by simp [szD, szDs]))).trans ?_
  · have k1 : sCallF f_changes (sCons (sL (sItems (sVar 2))) sNil) ρ4 dr2 = .ok (.int A) dr2 := by rw [hA]; exact bCallF (l := [.lst RS]) rfl (pc _ (.inl rfl) dr2)
    have k2 : sCallF f_filled_changes (sCons (sL (sItems (sVar 2))) sNil) ρ4 dr2 = .ok (.int B) dr2 := by rw [hB]; exact bCallF (l := [.lst RS]) rfl (pf _ (.inl rfl) dr2)
    have k3 : sCallF f_changes (sPick [0] (sCons (sCall dTuple (sCons (sVar 2) sNil)) sNil)) ρ4 dr2 = .ok (.int A) dr2 := by rw [hA]; exact bCallF (l := [.tup RS]) rfl (pc _ (.inr rfl) dr2)
    have k4 : sCallF f_filled_changes (sPick [0] (sCons (sCall dTuple (sCons (sVar 3) sNil)) sNil)) ρ4 dr2 = .ok (.int B) dr2 := by
      have := lt' rs hrs frs (.tup (rs.map prR)) (.inr rfl) dr2
      rw [hsg] at this
      rw [hB]
      exact bCallF (l := [.tup (rs.map prR)]) rfl this
    refine sL_ok ?_
    show sLst _ ρ4 dr2 = _
    generalize sCallF f_changes = G1 at k1 k3 ⊢
    generalize sCallF f_filled_changes = G2 at k2 k4 ⊢
    generalize ρ4 = ρ at k1 k2 k3 k4 ⊢
    simp [sLst, sCons, sNil, k1, k2, k3, k4, sz4]
  · exact sBin_ok (x := .lst [.int A, .int B]) (y := .lst [.int A, .int B]) rfl rfl rfl
  have ct : sComp (sEnum (sVar 3)) (gTp (gCn (gN 7) (gCn (gN 10) gNl))) cYes (sCallF f_law_signed (sCons (sVar 10) (sCons (sVar 7) sNil))) [7, 10] ρ4 dr2 = .ok (ts.map prR) dr2 := by
    have k := comp_map (it := sEnum (sVar 3)) (b := gTp (gCn (gN 7) (gCn (gN 10) gNl))) (e := sCallF f_law_signed (sCons (sVar 10) (sCons (sVar 7) sNil))) (vs := [7, 10]) (ρ := ρ4) (dr := dr2) (dr0 := dr2) (enumI 0 rs) (fun p => .tup [.int p.1, prR p.2]) (fun p => prR (tR p)) (by
      rw [← enumI_eq]
      rfl) (sz_le (by rw [enumI_len]; omega)) (fun p hp => ⟨_, rfl, (call2 (F := f_law_signed) (x := prR p.2) (y := .int p.1) (dr1 := dr2) (dr2 := dr2) rfl rfl).trans (law_signed_ok p.1 p.2 dr2)⟩)
    rw [k]
    simp only [ts, List.map_map]
    rfl
  let ρ6 : List Sl := [.val .draw, .val (.lst someL), .val (.lst RS), .val (.lst (rs.map prR)), .val (.lst [.int A, .int B]), .val (.lst (ts.map prR)), .val (.int N), .un, .un, .un, .un]
  refine (sSeq_nx (ρ' := ρ6) (dr' := dr2) ?_).trans ?_
  · have k : ∀ (a b : ES), a ρ4 dr2 = .ok (.lst (ts.map prR)) dr2 → b ρ4 dr2 = .ok (.int N) dr2 → sPar [5, 6] (zCons (zV a) (zCons (zV b) zNil)) ρ4 dr2 = .ok (.nx ρ6) dr2 := fun a b ha hb => by
      simp only [sPar, zCons, zV, zNil, ha, hb, bind_ok]
      rfl
    refine k _ _ (sL_ok ct) (sCall1 (x := .lst (rs.map prR)) rfl ?_)
    rw [dLen_lst, List.length_map, hrs, hN]
  refine (sSeq_nx (ρ' := ρ6) (dr' := dr2) ?_).trans ?_
  · have c := comp_fil (it := sItems (sVar 3)) (b := gN 10) (c := sT (sBin dNe (sBin dIx (sVar 10) (sC (.int 0))) (sC (.int 0)))) (e := sVar 10) (vs := [10]) (ρ := ρ6) (dr := dr2) (dr0 := dr2) rs prR (fun r => !decide (r.1 = 0)) prR rfl (sz_le (by omega)) (fun r _ => ⟨_, rfl, by simp [sT, sBin, sVar, wipeS, sC, ix0, dNe_int, ρ6], fun _ => rfl⟩)
    generalize hF : rs.filter (fun r => !decide (r.1 = 0)) = F at c
    have ne : dNe (.lst (F.map prR)) (.lst []) = some (.bl (!decide (F = []))) := by
      unfold dNe
      rw [if_pos ⟨by simp only [dOk]; exact dOks_pr 58 F, by simp [dOk, dOks]⟩]
      cases F <;> simp [dEqv, dEqvs]
    have q1 : sBin dNe (sL (sComp (sItems (sVar 3)) (gN 10) (sT (sBin dNe (sBin dIx (sVar 10) (sC (.int 0))) (sC (.int 0)))) (sVar 10) [10])) (sL (sLst sNil)) ρ6 dr2 = .ok (.bl (!decide (F = []))) dr2 := sBin_ok (sL_ok c) (sL_ok (by simp [sLst, sNil])) ne
    have k1 : sCallF f_changes (sCons (sL (sItems (sVar 2))) sNil) ρ6 dr2 = .ok (.int (chS (sgs l))) dr2 := bCallF (l := [.lst RS]) rfl (pc _ (.inl rfl) dr2)
    have k2 : sCallF f_filled_changes (sCons (sVar 5) sNil) ρ6 dr2 = .ok (.int (filM (altS false (sgs l))).top) dr2 := by
      have := lt' ts hts fts (.lst (ts.map prR)) (.inl rfl) dr2
      rw [sts] at this
      exact bCallF (l := [.lst (ts.map prR)]) rfl this
    have q2 : sBin dNe (sBin dAdd (sCallF f_changes (sCons (sL (sItems (sVar 2))) sNil)) (sCallF f_filled_changes (sCons (sVar 5) sNil))) (sBin dSub (sVar 6) (sC (.int 1))) ρ6 dr2 = .ok (.bl (!decide (chS (sgs l) + (filM (altS false (sgs l))).top = N - 1))) dr2 :=
      sBin_ok (sBin_ok k1 k2 rfl) (sBin_ok (x := .int N) (y := .int 1) rfl rfl rfl) (dNe_int _ _)
    show sIfS (sAnd _ _) _ _ ρ6 dr2 = _
    generalize ρ6 = ρ at q1 q2 ⊢
    by_cases h : F = []
    · simp only [h, decide_true, Bool.not_true] at q1
      simp only [sIfS, sT, sAnd, q1, bind_ok]
      rfl
    · have hne : (sgs l).filter (· ≠ 0) ≠ [] := fun z => h (by
        rw [← hF]
        refine List.filter_eq_nil_iff.mpr fun r hr => ?_
        have := List.filter_eq_nil_iff.mp z (sg r.1) (by rw [← hsg]; exact List.mem_map.mpr ⟨r, hr, rfl⟩)
        have q := sg_ne r.1
        by_cases y : r.1 = 0
        · simp [y]
        · exact absurd (by simp [q.mpr y]) this)
      have tot := turn_all (sgs l) hsc hne
      have ln : ((sgs l).length : Int) = N := by rw [hN]; unfold sgs; rw [List.length_map]; omega
      rw [ln] at tot
      simp only [h, decide_false, Bool.not_false] at q1
      simp only [tot, decide_true, Bool.not_true] at q2
      simp only [sIfS, sT, sAnd, q1, q2, bind_ok]
      rfl
  refine (sSeq_nx (ρ' := ρ6.set 7 (.val (.int at'))) (dr' := dr3) (setV_ok ((call2 (F := f_law_take) (x := .draw) (y := .int N) (dr1 := dr2) (dr2 := dr2) rfl rfl).trans e3))).trans ?_
  let near : D := .lst (RS.take at'.toNat ++ [o] ++ RS.drop (at' + 1).toNat)
  have hRS : RS.length = n := by rw [← hl, List.length_map]; exact hn1
  refine (sSeq_nx (ρ' := (ρ6.set 7 (.val (.int at'))).set 8 (.val near)) (dr' := dr4) (setV_ok ?_)).trans ?_
  · have z8 : (8 : Nat) ≤ sizeLine := sz_le (by decide)
    have pk : sCallF f_law_pick (sCons (sVar 0) (sCons (sL (sLst (sCons (sC .non) (sCons (sC (.bl true)) (sCons (sTup (sCons (sC (.int 2)) (sCons (sC (.int 4)) sNil))) (sCons (sTup (sCons (sC (.int 1)) (sCons (sC (.int 0)) sNil))) (sCons (sTup (sCons (sC (.int 1)) (sCons (sUn dNeg (sC (.int 2))) sNil))) (sCons (sC (.str "1")) (sCons (sL (sLst (sCons (sC (.int 1)) (sCons (sC (.int 2)) sNil)))) (sCons (sTup (sCons (sC (.int 1)) sNil)) sNil)))))))))) sNil)) (ρ6.set 7 (.val (.int at'))) dr3 = .ok o dr4 :=
      (call2 (F := f_law_pick) (x := .draw) (y := .lst ndL) (dr1 := dr3) (dr2 := dr3) rfl (sL_ok (by simp [sLst, sCons, sNil, sC, sTup, sL, sUn, dNeg, sz1, sz2, z8, ndL]))).trans e4
    have p1 : sCut (sVar 2) sNoP (sP (sVar 7)) (ρ6.set 7 (.val (.int at'))) dr3 = .ok (.lst (RS.take at'.toNat)) dr3 := by
      show lift (some (D.lst (cutD RS none (some at')))) dr3 = _
      rw [cut_to (by omega) (by omega)]
      rfl
    have p2 : sCut (sVar 2) (sP (sBin dAdd (sVar 7) (sC (.int 1)))) sNoP (ρ6.set 7 (.val (.int at'))) dr4 = .ok (.lst (RS.drop (at' + 1).toNat)) dr4 := by
      show lift (some (D.lst (cutD RS (some (at' + 1)) none))) dr4 = _
      rw [cut_from (by omega) (by omega)]
      rfl
    have s1 : dAdd (.lst (RS.take at'.toNat)) (.lst [o]) = some (.lst (RS.take at'.toNat ++ [o])) := if_pos (sz_le (by simp; omega))
    have s2 : dAdd (.lst (RS.take at'.toNat ++ [o])) (.lst (RS.drop (at' + 1).toNat)) = some near := if_pos (sz_le (by simp; omega))
    refine sBin_ok (sBin_ok p1 (sL_ok (l := [o]) ?_) s1) p2 s2
    simp only [sLst, sCons, pk, bind_ok, sNil]
    exact if_pos sz1
  have nn : f_need_any_row [near] dr5 = .exc ⟨1, [], []⟩ dr5 := by
    have k := near_no (l.take at'.toNat) (l.drop (at' + 1).toNat) (fun t ht => hf t (List.mem_of_mem_take ht)) (fun t ht => hf t (List.mem_of_mem_drop ht)) mo (by simp; omega) dr5
    rw [List.map_take, List.map_drop, hl] at k
    exact k
  have nt : f_need_any_row [th] dr5 = .exc ⟨1, [], []⟩ dr5 := by
    rw [hdd2] at mt
    exact oth_no mt dr5
  refine (sSeq_nx (ρ' := (((ρ6.set 7 (.val (.int at'))).set 8 (.val near)).set 9 (.val near)).set 9 (.val th)) (dr' := dr5) ?_).trans ?_
  · have it : sItems (sL (sLst (sCons (sVar 8) (sCons (sCallF f_law_pick (sCons (sVar 0) (sCons (sL (sLst (sCons (sL (sLst sNil)) (sCons (sTup sNil) (sCons (sC .non) (sCons (sC (.int 5)) (sCons (sC (.str "rows")) (sCons (sC (.dic [] [])) (sCons (sBin dMul (sL (sLst (sCons (sC (.int 0)) sNil))) (sC (.int 9))) (sCons (sDict [((sC (.int 0)), (sC (.int 1)))]) sNil)))))))))) sNil))) sNil)))) ((ρ6.set 7 (.val (.int at'))).set 8 (.val near)) dr4 = .ok [near, th] dr5 := by
      have z8 : (8 : Nat) ≤ sizeLine := sz_le (by decide)
      have u : dMul (.lst [.int 0]) (.int 9) = some (.lst (List.replicate 9 (.int 0))) := rfl
      have pk := (call2 (F := f_law_pick) (a := sVar 0) (b := sL (sLst (sCons (sL (sLst sNil)) (sCons (sTup sNil) (sCons (sC .non) (sCons (sC (.int 5)) (sCons (sC (.str "rows")) (sCons (sC (.dic [] [])) (sCons (sBin dMul (sL (sLst (sCons (sC (.int 0)) sNil))) (sC (.int 9))) (sCons (sDict [((sC (.int 0)), (sC (.int 1)))]) sNil)))))))))) (ρ := (ρ6.set 7 (.val (.int at'))).set 8 (.val near)) (x := .draw) (y := .lst (othL dd)) (dr := dr4) (dr1 := dr4) (dr2 := dr4) rfl (sL_ok (by
        rw [hdd]
        simp [sLst, sCons, sNil, sC, sTup, sL, sBin, u, sz0, sz1, z8, othL]))).trans e5
      have v8 : sVar 8 ((ρ6.set 7 (.val (.int at'))).set 8 (.val near)) dr4 = .ok near dr4 := rfl
      refine sItems_ok (x := .lst [near, th]) (sL_ok ?_) rfl
      simp only [sLst, sCons, pk, v8, bind_ok, sNil]
      exact if_pos sz2
    simp only [sFor, it, bind_ok]
    rw [fGo]
    simp only [gN]
    rw [thing_step (S := near) rfl nn]
    simp only
    rw [fGo]
    simp only [gN]
    rw [thing_step (S := th) rfl nt]
    rfl
  rfl
theorem right_loop (ns : List Int) : ∀ (n : Nat) (lo : Int) (s2 : Sl) (dr : Dr), ∃ s2' dr', fGo (gN 2) (sIfS (sNot (sCallF f_law_right (sCons (sVar 1) sNil))) (sRet (sC (.bl false))) sNext) (rangeL lo n) [.val (.scr ns), .val .draw, s2, .un] dr = .ok (.nx [.val (.scr ns), .val .draw, s2', .un]) dr'
  | 0, _, s2, dr => ⟨s2, dr, rfl⟩
  | n + 1, lo, s2, dr => by
    obtain ⟨dr1, e⟩ := right_ok dr
    obtain ⟨s2', dr', k⟩ := right_loop ns n (lo + 1) (.val (.int lo)) dr1
    refine ⟨s2', dr', ?_⟩
    rw [rangeL, fGo]
    have e' := (call1 (F := f_law_right) (a := sVar 1) (ρ := [.val (.scr ns), .val .draw, .val (.int lo), .un]) (x := .draw) (dr := dr) (dr1 := dr) rfl).trans e
    have st : sIfS (sNot (sCallF f_law_right (sCons (sVar 1) sNil))) (sRet (sC (.bl false))) sNext [.val (.scr ns), .val .draw, .val (.int lo), .un] dr = .ok (.nx [.val (.scr ns), .val .draw, .val (.int lo), .un]) dr1 := by
      simp [sIfS, sT, sNot, sUn, dNot, e', sNext]
    simp only [gN, List.set_cons_succ, List.set_cons_zero]
    rw [st]
    exact k
theorem consts (is : List Int) (h1 : 1 ≤ is.length) (h8 : is.length ≤ 8) (dr : Dr) : f_changes [.lst (is.map D.int)] dr = .ok (.int (chS (is.map sg))) dr ∧ f_filled_changes [.lst (is.map D.int)] dr = .ok (.int (filM (is.map sg)).top) dr := by
  have hm : (is.map fun i => ((D.int i, (i, 1)) : It)).map (·.1) = is.map D.int := by rw [List.map_map]; rfl
  have hg : sgs (is.map fun i => ((D.int i, (i, 1)) : It)) = is.map sg := by unfold sgs; rw [List.map_map]; rfl
  have f : ∀ t ∈ is.map (fun i => ((D.int i, (i, 1)) : It)), Fr t.1 t.2 := fun t ht => by
    obtain ⟨i, _, rfl⟩ := List.mem_map.mp ht
    exact .int i
  have k1 := changes_ok (is.map fun i => ((D.int i, (i, 1)) : It)) (by rw [List.length_map]; exact h1) (by rw [List.length_map]; exact h8) f (S := .lst (is.map D.int)) (.inl (by rw [hm])) dr
  have k2 := filled_ok (is.map fun i => ((D.int i, (i, 1)) : It)) (by rw [List.length_map]; exact h1) (by rw [List.length_map]; exact h8) f (S := .lst (is.map D.int)) (.inl (by rw [hm])) dr
  rw [hg] at k1 k2
  exact ⟨k1, k2⟩
theorem law_plain : ∀ ns : List Int, ns.length ≤ 63 → ∃ dr', b_law (lawSt ns) (dr0 ns) = .ok (.rt (.bl true)) dr' := by
  intro ns hn
  generalize dr0 ns = dr
  have mn : ∃ m : Int, dMin [.int (ns.length : Int), .int 8] = some (.int m) ∧ 0 ≤ m ∧ m ≤ 8 := by
    show ∃ m : Int, some (D.int (if (8 : Int) < ns.length then 8 else ns.length)) = some (.int m) ∧ 0 ≤ m ∧ m ≤ 8
    refine ⟨_, rfl, ?_⟩
    split <;> omega
  obtain ⟨m, em, m0, m1⟩ := mn
  obtain ⟨s2, dr', k⟩ := right_loop ns (8 + m).toNat 0 .un dr
  refine ⟨dr', ?_⟩
  unfold b_law
  refine (sSeq_nx (ρ' := [.val (.scr ns), .val .draw, s2, .un]) (dr' := dr') ?_).trans ?_
  · have el : dLen [.scr ns] = some (.int ns.length) := rfl
    have c1 : sRange1 (sBin dAdd (sC (.int 8)) (sCall dMin (sCons (sCall dLen (sCons (sVar 0) sNil)) (sCons (sC (.int 8)) sNil)))) [.val (.scr ns), .val .draw, .un, .un] dr = .ok (rangeL 0 (8 + m).toNat) dr :=
      range1_ok (sBin_ok (x := .int 8) (y := .int m) rfl (sCall2 (x := .int ns.length) (y := .int 8) (sCall1 (x := .scr ns) rfl rfl) rfl em) rfl) (by omega) (by omega)
    simp only [sFor, c1, bind_ok]
    exact k
  obtain ⟨a1, a2⟩ := consts [0, 0] (by decide) (by decide) dr'
  obtain ⟨b1, b2⟩ := consts [1, 0, -1, 0, 0, 1] (by decide) (by decide) dr'
  obtain ⟨c1, c2⟩ := consts [3] (by decide) (by decide) dr'
  obtain ⟨d1, d2⟩ := consts [0, 0, 0, 0, 0, 0, 0, 0] (by decide) (by decide) dr'
  rw [show chS ([0, 0].map sg) = -1 by decide +kernel] at a1
  rw [show (filM ([0, 0].map sg)).top = 1 by decide +kernel] at a2
  rw [show chS ([1, 0, -1, 0, 0, 1].map sg) = 2 by decide +kernel] at b1
  rw [show (filM ([1, 0, -1, 0, 0, 1].map sg)).top = 4 by decide +kernel] at b2
  rw [show chS ([3].map sg) = 0 by decide +kernel] at c1
  rw [show (filM ([0, 0, 0, 0, 0, 0, 0, 0].map sg)).top = 7 by decide +kernel] at d2
  simp only [List.map_cons, List.map_nil] at a1 a2 b1 b2 c1 d2
  have u : dMul (.lst [.int 0]) (.int 8) = some (.lst [.int 0, .int 0, .int 0, .int 0, .int 0, .int 0, .int 0, .int 0]) := rfl
  have z6 : (6 : Nat) ≤ sizeLine := sz_le (by decide)
  have el : f_law_says [.lst [.int (-1), .int 1, .int 2, .int 4, .int 0, .int 7], .lst [.int (-1), .int 1, .int 2, .int 4, .int 0, .int 7]] dr' = .ok (.bl true) dr' := says_ok' dr' (by simp [dOk, dOks]) (by simp [szD, szDs])
  refine (sSeq_nx (ρ' := [.val (.scr ns), .val .draw, s2, .val (.lst [.int (-1), .int 1, .int 2, .int 4, .int 0, .int 7])]) (dr' := dr') (setV_ok ?_)).trans ?_
  · simp [sL, sLst, sCallF, sCons, sNil, sC, sUn, dNeg, sBin, u, a1, a2, b1, b2, c1, d2, sz1, sz2, z6]
  · refine sRet_ok ((call2 (F := f_law_says) (y := .lst [.int (-1), .int 1, .int 2, .int 4, .int 0, .int 7]) (dr1 := dr') (dr2 := dr') rfl ?_).trans el)
    simp [sL, sLst, sCons, sNil, sC, sBin, dSub, z6]
end TP

open PySem PySem.W PyProof.Rows L2
set_option maxRecDepth 100000 in
set_option maxHeartbeats 0 in
theorem PySem.Challenge.cw_throwplanes_k31_whole_changes_of_rows_holds : PySem.Challenge.rw_throwplanes_k31_whole_changes_of_rows.Holds := by
  w_on; o_law; k_head; (case hw => w_witness2)
  k_fill
  refine TP.walk_T (n := 63) (k := 9) (x := "script") (by first | rfl | decide +kernel) (by decide) rfl ⟨rfl, by decide, by decide⟩ (fun w h Y => by first | exact PySem.W.km_in_of Y | exact PySem.W.kIn_of Y) ?F
  intro w mg fa h Y KX G hmg TT
  refine' TP.law_end KX G hmg TP.law_plain ?tp_a5 ?tp_l5 ?tp_o5 ?tp_k5 ?tp_a6 ?tp_l6 ?tp_o6 ?tp_k6 ?tp_a7 ?tp_l7 ?tp_o7 ?tp_k7 ?tp_a8 ?tp_l8 ?tp_o8 ?tp_k8 ?tp_a9 ?tp_l9 ?tp_o9 ?tp_k9 ?tp_a12 ?tp_l12 ?tp_o12 ?tp_k12 ?tp_a13 ?tp_l13 ?tp_o13 ?tp_k13 ?tp_a14 ?tp_l14 ?tp_o14 ?tp_k14 ?tp_a15 ?tp_l15 ?tp_o15 ?tp_k15 ?tp_a16 ?tp_l16 ?tp_o16 ?tp_k16 ?tp_a18 ?tp_l18 ?tp_o18 ?tp_k18 ?tp_a19 ?tp_l19 ?tp_o19 ?tp_k19 ?tp_a20 ?tp_l20 ?tp_o20 ?tp_k20 ?tp_a21 ?tp_l21 ?tp_o21 ?tp_k21 ?tp_a22 ?tp_l22 ?tp_o22 ?tp_k22 ?tp_a23 ?tp_l23 ?tp_o23 ?tp_k23 ?tp_a24 ?tp_l24 ?tp_o24 ?tp_k24 ?tp_a25 ?tp_l25 ?tp_o25 ?tp_k25 ?tp_a26 ?tp_l26 ?tp_o26 ?tp_k26 ?tp_a27 ?tp_l27 ?tp_o27 ?tp_k27 ?tp_a28 ?tp_l28 ?tp_o28 ?tp_k28 ?tp_a29 ?tp_l29 ?tp_o29 ?tp_k29 ?tp_a30 ?tp_l30 ?tp_o30 ?tp_k30 ?tp_y29 ?tp_n29 ?tp_h29 ?tp_m29 ?tp_g0 ?tp_e0_1 ?tp_e0_2 ?tp_e0_3 ?tp_e0_4 ?tp_e0_5 ?tp_e0_6 ?tp_e0_7 ?tp_e0_10 ?tp_e0_11 ?tp_e0_12 ?tp_g1 ?tp_e1_1 ?tp_e1_2 ?tp_e1_3 ?tp_e1_4 ?tp_e1_5 ?tp_e1_6 ?tp_e1_7 ?tp_e1_10 ?tp_e1_11 ?tp_e1_12 ?tp_e_8 ?tp_e_9 ?tp_s0_0 ?tp_s0_1 ?tp_r0_1 ?tp_s1_0 ?tp_s1_1 ?tp_b_abs ?tp_b_all ?tp_b_bool ?tp_b_dict ?tp_b_enumerate ?tp_b_int ?tp_b_isinstance ?tp_b_len ?tp_b_list ?tp_b_max ?tp_b_min ?tp_b_range ?tp_b_sum ?tp_b_tuple ?tp_b_zip ?tp_b_gcd ?tp_q_MOST_WIDTH
  (case tp_a5 => k_is)
  (case tp_l5 => k_is)
  (case tp_o5 => k_is)
  (case tp_k5 => k_is)
  (case tp_a6 => k_is)
  (case tp_l6 => k_is)
  (case tp_o6 => k_is)
  (case tp_k6 => k_is)
  (case tp_a7 => k_is)
  (case tp_l7 => k_is)
  (case tp_o7 => k_is)
  (case tp_k7 => k_is)
  (case tp_a8 => k_is)
  (case tp_l8 => k_is)
  (case tp_o8 => k_is)
  (case tp_k8 => k_is)
  (case tp_a9 => k_is)
  (case tp_l9 => k_is)
  (case tp_o9 => k_is)
  (case tp_k9 => k_is)
  (case tp_a12 => k_is)
  (case tp_l12 => k_is)
  (case tp_o12 => k_is)
  (case tp_k12 => k_is)
  (case tp_a13 => k_is)
  (case tp_l13 => k_is)
  (case tp_o13 => k_is)
  (case tp_k13 => k_is)
  (case tp_a14 => k_is)
  (case tp_l14 => k_is)
  (case tp_o14 => k_is)
  (case tp_k14 => k_is)
  (case tp_a15 => k_is)
  (case tp_l15 => k_is)
  (case tp_o15 => k_is)
  (case tp_k15 => k_is)
  (case tp_a16 => k_is)
  (case tp_l16 => k_is)
  (case tp_o16 => k_is)
  (case tp_k16 => k_is)
  (case tp_a18 => k_is)
  (case tp_l18 => k_is)
  (case tp_o18 => k_is)
  (case tp_k18 => k_is)
  (case tp_a19 => k_is)
  (case tp_l19 => k_is)
  (case tp_o19 => k_is)
  (case tp_k19 => k_is)
  (case tp_a20 => k_is)
  (case tp_l20 => k_is)
  (case tp_o20 => k_is)
  (case tp_k20 => k_is)
  (case tp_a21 => k_is)
  (case tp_l21 => k_is)
  (case tp_o21 => k_is)
  (case tp_k21 => k_is)
  (case tp_a22 => k_is)
  (case tp_l22 => k_is)
  (case tp_o22 => k_is)
  (case tp_k22 => k_is)
  (case tp_a23 => k_is)
  (case tp_l23 => k_is)
  (case tp_o23 => k_is)
  (case tp_k23 => k_is)
  (case tp_a24 => k_is)
  (case tp_l24 => k_is)
  (case tp_o24 => k_is)
  (case tp_k24 => k_is)
  (case tp_a25 => k_is)
  (case tp_l25 => k_is)
  (case tp_o25 => k_is)
  (case tp_k25 => k_is)
  (case tp_a26 => k_is)
  (case tp_l26 => k_is)
  (case tp_o26 => k_is)
  (case tp_k26 => k_is)
  (case tp_a27 => k_is)
  (case tp_l27 => k_is)
  (case tp_o27 => k_is)
  (case tp_k27 => k_is)
  (case tp_a28 => k_is)
  (case tp_l28 => k_is)
  (case tp_o28 => k_is)
  (case tp_k28 => k_is)
  (case tp_a29 => k_is)
  (case tp_l29 => k_is)
  (case tp_o29 => k_is)
  (case tp_k29 => k_is)
  (case tp_a30 => k_is)
  (case tp_l30 => k_is)
  (case tp_o30 => k_is)
  (case tp_k30 => k_is)
  (case tp_y29 => rfl)
  (case tp_n29 => rfl)
  (case tp_h29 => rfl)
  (case tp_m29 => exact PySem.W.km_tabs_of Y _ (by simp))
  (case tp_g0 => k_is)
  (case tp_e0_1 => k_is)
  (case tp_e0_2 => k_is)
  (case tp_e0_3 => k_is)
  (case tp_e0_4 => k_is)
  (case tp_e0_5 => k_is)
  (case tp_e0_6 => k_is)
  (case tp_e0_7 => k_is)
  (case tp_e0_10 => k_is)
  (case tp_e0_11 => first | kernel_rfl | rfl)
  (case tp_e0_12 => k_is)
  (case tp_g1 => k_is)
  (case tp_e1_1 => k_is)
  (case tp_e1_2 => k_is)
  (case tp_e1_3 => k_is)
  (case tp_e1_4 => k_is)
  (case tp_e1_5 => k_is)
  (case tp_e1_6 => k_is)
  (case tp_e1_7 => k_is)
  (case tp_e1_10 => k_is)
  (case tp_e1_11 => first | kernel_rfl | rfl)
  (case tp_e1_12 => k_is)
  (case tp_e_8 => k_is)
  (case tp_e_9 => k_is)
  (case tp_s0_0 => k_is)
  (case tp_s0_1 => k_is)
  (case tp_r0_1 => decide)
  (case tp_s1_0 => k_is)
  (case tp_s1_1 => k_is)
  (case tp_b_abs => k_is)
  (case tp_b_all => k_is)
  (case tp_b_bool => k_is)
  (case tp_b_dict => k_is)
  (case tp_b_enumerate => k_is)
  (case tp_b_int => k_is)
  (case tp_b_isinstance => k_is)
  (case tp_b_len => k_is)
  (case tp_b_list => k_is)
  (case tp_b_max => k_is)
  (case tp_b_min => k_is)
  (case tp_b_range => k_is)
  (case tp_b_sum => k_is)
  (case tp_b_tuple => k_is)
  (case tp_b_zip => k_is)
  (case tp_b_gcd => k_is)
  (case tp_q_MOST_WIDTH => k_is)
