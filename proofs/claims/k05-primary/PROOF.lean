import PyProof.Rows.All
import Wide.All
import OpenK.AllK
import Wide.FinOn
import HandS.ForMost
import HandS.ForExc
import HandS.HotCalls
import HandS.ExcInit
import HandS.ExcInitHot
import HandS.Lambda
import HandS.ExcField
import HandS.IsInst
import HandS.ExcIs
import HandS.Wide
import HandS.TupAny
import HandS.Deep
import HandS.Flow
import HandS.Style
import HandS.Iter
import HandS.ForDict
import HandS.Conv
import HandS.Gcd
import KE.KExcIs
import HandS.EndTab
import HandS.HeadHook4
import HandS.NestedK
import HandS.Head0
import HandS.Head1
import HandS.Head2
import HandS.HeadEnd
import PySem.Challenge.RW_fourthsthirds_k05_whole_primary_numbers
set_option Elab.async false
set_option linter.all false
set_option maxRecDepth 100000
set_option maxHeartbeats 4000000
/-! DL1: values as data (D), how they lie in the abstract heap (Rep), a frame's slots as data (Ok), and readings over data (DE, DS). -/
namespace DL
open PySem PySem.Spec PyProof.Rows L2
abbrev St := L2.St

/-- a Python value as data; fn: a def of the module by its name; pen: the source of draws; ptr: an object of which the frame knows by other means -/
inductive D where
  | non | bl (b : Bool) | int (i : Int) | str (s : Str)
  | tup (xs : List D) | lst (xs : List D) | dct (kvs : List (Key × D))
  | obj (c : Str) (fs : List (Str × D))
  | fn (x : Str)
  | pen
  | ptr (a : Addr)

/-- what is fixed while a law runs: the written part, the module's names, the pen (its dict, its list of cells), the tables of code objects -/
structure Cn where
  K : PySem.W.Frag
  mg : Str → Option Value
  pen : Option (Addr × Addr)
  T : List (Addr × Str)

mutual
inductive Rep (c : Cn) (F : Addr → Prop) (H : Hp) : V → D → Prop
  | non : Rep c F H .non .non
  | bl (b) : Rep c F H (.bl b) (.bl b)
  | int (i) : Rep c F H (.int i) (.int i)
  | str (s) : Rep c F H (.str s) (.str s)
  | tup {a vs ds} : Rd H a (.tup vs) → ¬ F a → Reps c F H vs ds → Rep c F H (.ref a) (.tup ds)
  | tupK {a vs ds} : (∀ H', SqT c.K H' a vs) → Reps c F H vs ds → Rep c F H (.ref a) (.tup ds)
  | lst {a vs ds} : H a = some (.lst vs) → ¬ F a → Reps c F H vs ds → Rep c F H (.ref a) (.lst ds)
  | dct {a vs ds} : H a = some (.dK vs) → ¬ F a → RepK c F H vs ds → Rep c F H (.ref a) (.dct ds)
  | obj {a C dx fs x ds} : H a = some (.ins C dx fs) → ¬ F a → c.mg x = some (.ref C) → RepF c F H fs ds → Rep c F H (.ref a) (.obj x ds)
  | fn {f x} : c.mg x = some (.ref f) → Rep c F H (.ref f) (.fn x)
  | pen {a l} : c.pen = some (a, l) → Rep c F H (.ref a) .pen
  | ptr (a) : Rep c F H (.ref a) (.ptr a)
inductive Reps (c : Cn) (F : Addr → Prop) (H : Hp) : List V → List D → Prop
  | nil : Reps c F H [] []
  | cons {v d vs ds} : Rep c F H v d → Reps c F H vs ds → Reps c F H (v :: vs) (d :: ds)
inductive RepK (c : Cn) (F : Addr → Prop) (H : Hp) : List (Key × V) → List (Key × D) → Prop
  | nil : RepK c F H [] []
  | cons {k v d vs ds} : Rep c F H v d → RepK c F H vs ds → RepK c F H ((k, v) :: vs) ((k, d) :: ds)
inductive RepF (c : Cn) (F : Addr → Prop) (H : Hp) : List (Str × V) → List (Str × D) → Prop
  | nil : RepF c F H [] []
  | cons {k v d vs ds} : Rep c F H v d → RepF c F H vs ds → RepF c F H ((k, v) :: vs) ((k, d) :: ds)
end

/-- nothing stands at b, but perhaps a table -/
def vac (H : Hp) (b : Addr) : Prop := ∀ o, H b = some o → ∃ ps, o = .tbl ps
theorem vac.of {H : Hp} {b : Addr} (h : H b = none) : vac H b := fun o e => by rw [h] at e; cases e
theorem vac.no {H : Hp} {b : Addr} {o : HO} (v : vac H b) (e : H b = some o) (t : ∀ ps, o ≠ .tbl ps) : False := by
  obtain ⟨ps, z⟩ := v o e
  exact t ps z
theorem vac.rd {H : Hp} {b : Addr} {o : HO} (v : vac H b) (r : Rd H b o) (t : ∀ ps, o ≠ .tbl ps) : False := by
  rcases r with r | ⟨_, r⟩
  · exact v.no r t
  · exact v.no r fun ps z => nomatch z
/-- all that is tracked stays, but what F tells and the tables -/
structure Ext (F : Addr → Prop) (H H' : Hp) : Prop where
  keep : ∀ b o, H b = some o → ¬ F b → (∀ ps, o ≠ .tbl ps) → H' b = some o
  dom : ∀ b, vac H' b → vac H b
theorem Ext.refl (F : Addr → Prop) (H : Hp) : Ext F H H := ⟨fun _ _ e _ _ => e, fun _ e => e⟩
theorem Ext.trans {F : Addr → Prop} {H H1 H2 : Hp} (a : Ext F H H1) (b : Ext F H1 H2) : Ext F H H2 := ⟨fun c o e n t => b.keep c o (a.keep c o e n t) n t, fun c e => a.dom c (b.dom c e)⟩
theorem Ext.of {F : Addr → Prop} {H H' : Hp} (e : ∀ b o, H b = some o → H' b = some o) : Ext F H H' := ⟨fun b o h _ _ => e b o h, fun b h o q => h o (e b o q)⟩
/-- what is tracked is tracked later -/
theorem Ext.stay {F : Addr → Prop} {H H' : Hp} (e : Ext F H H') {b : Addr} {o : HO} (h : H b = some o) (t : ∀ ps, o ≠ .tbl ps) : ∃ o', H' b = some o' ∧ ∀ ps, o' ≠ .tbl ps := by
  by_cases v : vac H' b
  · exact ((e.dom b v).no h t).elim
  · unfold vac at v
    rw [Classical.not_forall] at v
    obtain ⟨o', v⟩ := v
    rw [Classical.not_imp] at v
    exact ⟨o', v.1, fun ps z => v.2 ⟨ps, z⟩⟩
theorem Ext.mono {F F' : Addr → Prop} {H H' : Hp} (e : Ext F H H') (h : ∀ b, F b → F' b) : Ext F' H H' := ⟨fun b o q n t => e.keep b o q (fun z => n (h b z)) t, e.dom⟩
theorem Ext.new {F : Addr → Prop} {H : Hp} {p : Addr} {o : HO} (h : H p = none) : Ext F H (upd H p o) := Ext.of fun b u e => by
  rw [upd_ne (ne_of_none e h)]; exact e
theorem Ext.rd {F : Addr → Prop} {H H' : Hp} {a : Addr} {u : HO} (e : Ext F H H') (h : Rd H a u) (n : ¬ F a) (t : ∀ ps, u ≠ .tbl ps) : Rd H' a u := by
  rcases h with h | ⟨o, h⟩
  · exact .inl (e.keep a u h n t)
  · exact .inr ⟨o, e.keep a _ h n (fun ps z => nomatch z)⟩

section
variable {c : Cn} {F F' : Addr → Prop} {H H' : Hp}
mutual
theorem Rep.ext (e : Ext F H H') : ∀ {v : V} {d : D}, Rep c F H v d → Rep c F H' v d
  | _, _, .non => .non
  | _, _, .bl b => .bl b
  | _, _, .int i => .int i
  | _, _, .str s => .str s
  | _, _, .tup r n rs => .tup (e.rd r n fun ps z => nomatch z) n (Reps.ext e rs)
  | _, _, .tupK r rs => .tupK r (Reps.ext e rs)
  | _, _, .lst r n rs => .lst (e.keep _ _ r n fun ps z => nomatch z) n (Reps.ext e rs)
  | _, _, .dct r n rs => .dct (e.keep _ _ r n fun ps z => nomatch z) n (RepK.ext e rs)
  | _, _, .obj r n m rs => .obj (e.keep _ _ r n fun ps z => nomatch z) n m (RepF.ext e rs)
  | _, _, .fn m => .fn m
  | _, _, .pen m => .pen m
  | _, _, .ptr a => .ptr a
theorem Reps.ext (e : Ext F H H') : ∀ {vs : List V} {ds : List D}, Reps c F H vs ds → Reps c F H' vs ds
  | _, _, .nil => .nil
  | _, _, .cons r rs => .cons (Rep.ext e r) (Reps.ext e rs)
theorem RepK.ext (e : Ext F H H') : ∀ {vs : List (Key × V)} {ds : List (Key × D)}, RepK c F H vs ds → RepK c F H' vs ds
  | _, _, .nil => .nil
  | _, _, .cons r rs => .cons (Rep.ext e r) (RepK.ext e rs)
theorem RepF.ext (e : Ext F H H') : ∀ {vs : List (Str × V)} {ds : List (Str × D)}, RepF c F H vs ds → RepF c F H' vs ds
  | _, _, .nil => .nil
  | _, _, .cons r rs => .cons (Rep.ext e r) (RepF.ext e rs)
end
/-! fewer addresses are barred, or others that H does not track -/
mutual
theorem Rep.anti (h : ∀ b, F' b → F b ∨ vac H b) : ∀ {v : V} {d : D}, Rep c F H v d → Rep c F' H v d
  | _, _, .non => .non
  | _, _, .bl b => .bl b
  | _, _, .int i => .int i
  | _, _, .str s => .str s
  | _, _, .tup r n rs => .tup r (fun z => (h _ z).elim n fun e => e.rd r fun ps z => nomatch z) (Reps.anti h rs)
  | _, _, .tupK r rs => .tupK r (Reps.anti h rs)
  | _, _, .lst r n rs => .lst r (fun z => (h _ z).elim n fun e => e.no r fun ps z => nomatch z) (Reps.anti h rs)
  | _, _, .dct r n rs => .dct r (fun z => (h _ z).elim n fun e => e.no r fun ps z => nomatch z) (RepK.anti h rs)
  | _, _, .obj r n m rs => .obj r (fun z => (h _ z).elim n fun e => e.no r fun ps z => nomatch z) m (RepF.anti h rs)
  | _, _, .fn m => .fn m
  | _, _, .pen m => .pen m
  | _, _, .ptr a => .ptr a
theorem Reps.anti (h : ∀ b, F' b → F b ∨ vac H b) : ∀ {vs : List V} {ds : List D}, Reps c F H vs ds → Reps c F' H vs ds
  | _, _, .nil => .nil
  | _, _, .cons r rs => .cons (Rep.anti h r) (Reps.anti h rs)
theorem RepK.anti (h : ∀ b, F' b → F b ∨ vac H b) : ∀ {vs : List (Key × V)} {ds : List (Key × D)}, RepK c F H vs ds → RepK c F' H vs ds
  | _, _, .nil => .nil
  | _, _, .cons r rs => .cons (Rep.anti h r) (RepK.anti h rs)
theorem RepF.anti (h : ∀ b, F' b → F b ∨ vac H b) : ∀ {vs : List (Str × V)} {ds : List (Str × D)}, RepF c F H vs ds → RepF c F' H vs ds
  | _, _, .nil => .nil
  | _, _, .cons r rs => .cons (Rep.anti h r) (RepF.anti h rs)
end
theorem Reps.length : ∀ {vs : List V} {ds : List D}, Reps c F H vs ds → vs.length = ds.length
  | _, _, .nil => rfl
  | _, _, .cons _ rs => congrArg (· + 1) (Reps.length rs)
theorem Reps.get : ∀ {vs : List V} {ds : List D} {i : Nat} {d : D}, Reps c F H vs ds → ds[i]? = some d → ∃ v, vs[i]? = some v ∧ Rep c F H v d
  | _, _, _, _, .nil, e => by simp at e
  | _, _, 0, _, .cons r _, e => by simp at e; subst e; exact ⟨_, rfl, r⟩
  | _, _, i + 1, d, .cons _ rs, e => by
    obtain ⟨v, h1, h2⟩ := Reps.get (i := i) (d := d) rs (by simpa using e)
    exact ⟨v, by simpa using h1, h2⟩
theorem Reps.append : ∀ {vs ws : List V} {ds es : List D}, Reps c F H vs ds → Reps c F H ws es → Reps c F H (vs ++ ws) (ds ++ es)
  | _, _, _, _, .nil, s => s
  | _, _, _, _, .cons r rs, s => .cons r (Reps.append rs s)
theorem Reps.drop : ∀ {vs : List V} {ds : List D} (n : Nat), Reps c F H vs ds → Reps c F H (vs.drop n) (ds.drop n)
  | _, _, 0, r => r
  | _, _, _ + 1, .nil => .nil
  | _, _, n + 1, .cons _ rs => Reps.drop n rs
theorem Reps.take : ∀ {vs : List V} {ds : List D} (n : Nat), Reps c F H vs ds → Reps c F H (vs.take n) (ds.take n)
  | _, _, 0, _ => .nil
  | _, _, _ + 1, .nil => .nil
  | _, _, n + 1, .cons r rs => .cons r (Reps.take n rs)
theorem Reps.reverse : ∀ {vs : List V} {ds : List D}, Reps c F H vs ds → Reps c F H vs.reverse ds.reverse
  | _, _, .nil => .nil
  | _, _, .cons r rs => by
    rw [List.reverse_cons, List.reverse_cons]
    exact (Reps.reverse rs).append (.cons r .nil)
theorem Reps.set {v : V} {d : D} (r : Rep c F H v d) : ∀ {vs : List V} {ds : List D} (i : Nat), Reps c F H vs ds → Reps c F H (vs.set i v) (ds.set i d)
  | _, _, _, .nil => .nil
  | _, _, 0, .cons _ rs => .cons r rs
  | _, _, i + 1, .cons q rs => .cons q (Reps.set r i rs)
theorem Rep.sqT {a : Addr} {ds : List D} (r : Rep c F H (.ref a) (.tup ds)) : ∃ vs, SqT c.K H a vs ∧ Reps c F H vs ds := by
  cases r with
  | tup r n rs => exact ⟨_, .inl r, rs⟩
  | tupK r rs => exact ⟨_, r H, rs⟩
theorem Rep.sqL {a : Addr} {ds : List D} (r : Rep c F H (.ref a) (.lst ds)) : ∃ vs, H a = some (.lst vs) ∧ Reps c F H vs ds := by
  cases r with
  | lst r n rs => exact ⟨_, r, rs⟩
theorem Rep.isTup {v : V} {ds : List D} (r : Rep c F H v (.tup ds)) : ∃ a vs, v = .ref a ∧ SqT c.K H a vs ∧ Reps c F H vs ds := by
  cases r with
  | tup r n rs => exact ⟨_, _, rfl, .inl r, rs⟩
  | tupK r rs => exact ⟨_, _, rfl, r H, rs⟩
theorem Rep.isLst {v : V} {ds : List D} (r : Rep c F H v (.lst ds)) : ∃ a vs, v = .ref a ∧ H a = some (.lst vs) ∧ Reps c F H vs ds := by
  cases r with
  | lst r n rs => exact ⟨_, _, rfl, r, rs⟩
end

/-! ### the state of a frame -/
/-- a slot: not known; a value; a list of the frame's own that nobody else holds; such a dict -/
inductive Slot where
  | un | val (d : D) | own (ds : List D) | ownD (kvs : List (Key × D))

/-- a frame: F the addresses barred from outside, H0 the heap at the entry, V what may change meanwhile (the pen's dict; a list that a comprehension makes) -/
structure Gh extends Cn where
  F : Addr → Prop
  H0 : Hp
  V : Addr → Prop
abbrev Gh.bar (g : Gh) (A : List Addr) : Addr → Prop := fun b => g.F b ∨ b ∈ A
def Cn.W (c : Cn) (b : Addr) : Prop := ∃ l, c.pen = some (b, l)

/-- the pen: a dict of five, its ints not below 0 where that matters -/
def PenD (H : Hp) (a l : Addr) : Prop := ∃ at_ digits count fold : Int, 0 ≤ at_ ∧ 0 ≤ digits ∧
  H a = some (HO.dK [(Sum.inr "cells", V.ref l), (Sum.inr "at", V.int at_), (Sum.inr "digits", V.int digits), (Sum.inr "count", V.int count), (Sum.inr "fold", V.int fold)])
def PenL (K : PySem.W.Frag) (H : Hp) (l : Addr) : Prop := ∃ ns : List Int, SqL K H l (ns.map V.int)
/-- what changes with the heap: the pen's dict, the tables -/
structure JD (c : Cn) (H : Hp) : Prop where
  pen : ∀ a l, c.pen = some (a, l) → PenD H a l
  tabs : LamX.Tabs c.T H
/-- .. and the pen's cells -/
structure J (c : Cn) (H : Hp) : Prop where
  jd : JD c H
  cells : ∀ a l, c.pen = some (a, l) → PenL c.K H l

section
variable (c : Cn) (Fb : Addr → Prop) (H : Hp)
inductive Slots : List Addr → List Slot → St → Prop
  | nil : Slots [] [] []
  | un {A δ σ o} : Slots A δ σ → Slots A (.un :: δ) (o :: σ)
  | val {A δ σ v d} : Rep c Fb H v d → Slots A δ σ → Slots A (.val d :: δ) (some v :: σ)
  | own {A δ σ a vs ds} : H a = some (.lst vs) → Reps c Fb H vs ds → Slots A δ σ → Slots (a :: A) (.own ds :: δ) (some (.ref a) :: σ)
  | ownD {A δ σ a vs ds} : H a = some (.dK vs) → RepK c Fb H vs ds → Slots A δ σ → Slots (a :: A) (.ownD ds :: δ) (some (.ref a) :: σ)
end

/-- the cells are written, or stand and stay -/
def CellsAt (g : Gh) : Prop := ∀ a l, g.pen = some (a, l) → (∃ ns : List Int, ∀ H, SqL g.K H l (ns.map V.int)) ∨ (¬ g.V l ∧ ∃ ns : List Int, Rd g.H0 l (.lst (ns.map V.int)))
structure Ok (g : Gh) (A : List Addr) (δ : List Slot) (σ : St) (H : Hp) : Prop where
  cl : CellsAt g
  jd : JD g.toCn H
  wV : ∀ b, g.toCn.W b → g.V b
  ext : Ext g.V g.H0 H
  fW : ∀ b, g.V b → g.F b
  fd : ∀ b, g.F b → ∃ o, g.H0 b = some o ∧ ∀ ps, o ≠ .tbl ps
  new : ∀ b ∈ A, vac g.H0 b
  tk : ∀ b ∈ A, ∃ o, H b = some o ∧ ∀ ps, o ≠ .tbl ps
  sl : ∃ As : List Addr, As.Nodup ∧ (∀ b ∈ As, b ∈ A) ∧ Slots g.toCn (g.bar A) H As δ σ

/-- between two moments of a frame: what is not barred stays; what is barred later was so, or is new -/
structure Later (g : Gh) (A : List Addr) (H : Hp) (A' : List Addr) (H' : Hp) : Prop where
  ext : Ext (g.bar A) H H'
  bar : ∀ b ∈ A', b ∈ A ∨ vac H b

section
variable {g : Gh} {A A' A'' : List Addr} {δ : List Slot} {σ : St} {H H' H'' : Hp}
theorem Later.refl : Later g A H A H := ⟨Ext.refl _ _, fun _ h => .inl h⟩
theorem Later.of (e : Ext (g.bar A) H H') : Later g A H A H' := ⟨e, fun _ h => .inl h⟩
theorem Later.trans (a : Later g A H A' H') (b : Later g A' H' A'' H'') : Later g A H A'' H'' := by
  refine ⟨⟨fun x o e n t => ?_, fun x e => a.ext.dom x (b.ext.dom x e)⟩, fun x hx2 => ?_⟩
  · refine b.ext.keep x o (a.ext.keep x o e n t) (fun z => ?_) t
    rcases z with z | z
    · exact n (.inl z)
    · rcases a.bar x z with q | q
      · exact n (.inr q)
      · exact q.no e t
  · rcases b.bar x hx2 with q | q
    · exact a.bar x q
    · exact .inr (a.ext.dom x q)
theorem Later.rep {v : V} {d : D} (l : Later g A H A' H') (r : Rep g.toCn (g.bar A) H v d) : Rep g.toCn (g.bar A') H' v d := by
  have r1 : Rep g.toCn (fun b => g.bar A b ∨ g.bar A' b) H v d := Rep.anti (fun b hb => by
    rcases hb with hb | hb | hb
    · exact .inl hb
    · exact .inl (.inl hb)
    · rcases l.bar b hb with q | q
      · exact .inl (.inr q)
      · exact .inr q) r
  exact Rep.anti (fun b hb => .inl (.inr hb)) (Rep.ext (l.ext.mono fun b h => .inl h) r1)
theorem Later.reps {vs : List V} {ds : List D} (l : Later g A H A' H') : Reps g.toCn (g.bar A) H vs ds → Reps g.toCn (g.bar A') H' vs ds := by
  intro r
  induction ds generalizing vs with
  | nil => cases r; exact .nil
  | cons d ds ih => cases r with | cons a b => exact .cons (l.rep a) (ih b)
end
end DL

set_option Elab.async false
set_option linter.all false
set_option maxRecDepth 100000
set_option maxHeartbeats 4000000
/-! DL2: readings over data: expressions (DE), argument lists (DA), tests (DT), statements (DS, DSs). -/
namespace DL
open PySem PySem.Spec PyProof.Rows L2

section
variable {g : Gh} {A : List Addr} {δ : List Slot} {σ : St} {H H' : Hp}
theorem JD.new {c : Cn} {p : Addr} {o : HO} (j : JD c H) (h : H p = none) : JD c (upd H p o) := by
  refine ⟨fun a l e => ?_, LamX.Tabs.ext j.tabs fun b u q => by rw [upd_ne (ne_of_none q h)]; exact q⟩
  obtain ⟨i1, i2, i3, i4, h1, h2, q⟩ := j.pen a l e
  exact ⟨i1, i2, i3, i4, h1, h2, by rw [upd_ne (ne_of_none q h)]; exact q⟩
theorem Slots.ext {c : Cn} {Fb W : Addr → Prop} (hW : ∀ b, W b → Fb b) (e : Ext W H H') : ∀ {A : List Addr} {δ : List Slot} {σ : St}, (∀ b ∈ A, ¬ W b) → Slots c Fb H A δ σ → Slots c Fb H' A δ σ := by
  intro A δ σ hA s
  have e' : Ext Fb H H' := e.mono hW
  induction s with
  | nil => exact .nil
  | un _ ih => exact .un (ih hA)
  | val r _ ih => exact .val (r.ext e') (ih hA)
  | own q r _ ih => exact .own (e.keep _ _ q (hA _ List.mem_cons_self) fun ps z => nomatch z) (r.ext e') (ih fun b hb => hA b (List.mem_cons_of_mem _ hb))
  | ownD q r _ ih => exact .ownD (e.keep _ _ q (hA _ List.mem_cons_self) fun ps z => nomatch z) (r.ext e') (ih fun b hb => hA b (List.mem_cons_of_mem _ hb))
theorem Ok.W0 (ok : Ok g A δ σ H) : ∀ b, g.bar A b → ∃ o, H b = some o ∧ ∀ ps, o ≠ .tbl ps := by
  intro b hb
  rcases hb with hb | hb
  · obtain ⟨o, e, t⟩ := ok.fd b hb
    exact ok.ext.stay e t
  · exact ok.tk b hb
theorem Ok.fresh (ok : Ok g A δ σ H) {p : Addr} (h : H p = none) : ¬ g.bar A p := fun z => by
  obtain ⟨o, e, _⟩ := ok.W0 p z
  rw [h] at e; cases e
theorem Ok.noW (ok : Ok g A δ σ H) : ∀ b ∈ A, ¬ g.V b := fun b hb hw => by
  obtain ⟨o, e, t⟩ := ok.fd b (ok.fW b hw)
  exact (ok.new b hb).no e ‹_›
theorem Ok.step (ok : Ok g A δ σ H) (e : Ext g.V H H') (j : JD g.toCn H') : Ok g A δ σ H' := by
  obtain ⟨As, nd, sub, sl⟩ := ok.sl
  refine ⟨ok.cl, j, ok.wV, ok.ext.trans e, ok.fW, ok.fd, ok.new, fun b hb => ?_, As, nd, sub, Slots.ext (fun b h => .inl (ok.fW b h)) e (fun b hb => ok.noW b (sub b hb)) sl⟩
  obtain ⟨o, q, t⟩ := ok.tk b hb
  exact ⟨o, e.keep b o q (ok.noW b hb) t, t⟩
theorem Ok.laid (ok : Ok g A δ σ H) {p : Addr} {o : HO} (h : H p = none) : Ok g A δ σ (upd H p o) := ok.step (Ext.new h) (ok.jd.new h)
theorem Ok.J (ok : Ok g A δ σ H) : J g.toCn H := by
  refine ⟨ok.jd, fun a l e => ?_⟩
  rcases ok.cl a l e with ⟨ns, q⟩ | ⟨nv, ns, q⟩
  · exact ⟨ns, q H⟩
  · exact ⟨ns, .inl (ok.ext.rd q nv fun ps z => nomatch z)⟩
/-- at a frame's start -/
theorem J.cellsAt {c : Cn} {H : Hp} {F : Addr → Prop} (j : DL.J c H) : CellsAt { toCn := c, F := F, H0 := H, V := c.W } := by
  intro a l e
  obtain ⟨ns, q⟩ := j.cells a l e
  rcases q with q | q
  · refine .inr ⟨fun ⟨l2, hl⟩ => ?_, ns, q⟩
    have e2 := (show c.pen = some (a, l) from e).symm.trans hl
    injection e2 with e3
    injection e3 with e4 e5
    obtain ⟨_, _, _, _, _, _, q2⟩ := j.jd.pen a l e
    rw [e4] at q2
    rcases q with q | ⟨_, q⟩ <;> rw [q] at q2 <;> cases q2
  · exact .inl ⟨ns, fun H' => .inr q⟩
theorem Slots.get {c : Cn} {Fb : Addr → Prop} : ∀ {A : List Addr} {δ : List Slot} {σ : St}, Slots c Fb H A δ σ → ∀ {i : Nat} {d : D}, δ[i]? = some (.val d) → ∃ v, σ[i]? = some (some v) ∧ Rep c Fb H v d := by
  intro A δ σ s
  induction s with
  | nil => intro i d e; simp at e
  | un _ ih => intro i d e; cases i with
    | zero => simp at e
    | succ i => simpa using ih (by simpa using e)
  | val r _ ih => intro i d e; cases i with
    | zero => simp at e; subst e; exact ⟨_, rfl, r⟩
    | succ i => simpa using ih (by simpa using e)
  | own _ _ _ ih => intro i d e; cases i with
    | zero => simp at e
    | succ i => simpa using ih (by simpa using e)
  | ownD _ _ _ ih => intro i d e; cases i with
    | zero => simp at e
    | succ i => simpa using ih (by simpa using e)
theorem Slots.getOwn {c : Cn} {Fb : Addr → Prop} : ∀ {A : List Addr} {δ : List Slot} {σ : St}, Slots c Fb H A δ σ → ∀ {i : Nat} {ds : List D}, δ[i]? = some (.own ds) → ∃ a vs, σ[i]? = some (some (V.ref a)) ∧ a ∈ A ∧ H a = some (.lst vs) ∧ Reps c Fb H vs ds := by
  intro A δ σ s
  induction s with
  | nil => intro i d e; simp at e
  | un _ ih => intro i d e; cases i with
    | zero => simp at e
    | succ i => simpa using ih (by simpa using e)
  | val r _ ih => intro i d e; cases i with
    | zero => simp at e
    | succ i => simpa using ih (by simpa using e)
  | own q r _ ih => intro i d e; cases i with
    | zero => simp at e; subst e; exact ⟨_, _, rfl, List.mem_cons_self, q, r⟩
    | succ i =>
      obtain ⟨a, vs, h1, h2, h3, h4⟩ := ih (i := i) (by simpa using e)
      exact ⟨a, vs, by simpa using h1, List.mem_cons_of_mem _ h2, h3, h4⟩
  | ownD _ _ _ ih => intro i d e; cases i with
    | zero => simp at e
    | succ i =>
      obtain ⟨a, vs, h1, h2, h3, h4⟩ := ih (i := i) (by simpa using e)
      exact ⟨a, vs, by simpa using h1, List.mem_cons_of_mem _ h2, h3, h4⟩
end

section
variable {g : Gh} {A : List Addr} {δ : List Slot} {σ : St} {H H' : Hp}
theorem Ok.get (ok : Ok g A δ σ H) {i : Nat} {d : D} (e : δ[i]? = some (.val d)) : ∃ v, σ[i]? = some (some v) ∧ Rep g.toCn (g.bar A) H v d := by
  obtain ⟨As, nd, sub, sl⟩ := ok.sl
  exact sl.get e
theorem Ok.getOwn (ok : Ok g A δ σ H) {i : Nat} {ds : List D} (e : δ[i]? = some (.own ds)) : ∃ a vs, σ[i]? = some (some (V.ref a)) ∧ a ∈ A ∧ H a = some (.lst vs) ∧ Reps g.toCn (g.bar A) H vs ds := by
  obtain ⟨As, nd, sub, sl⟩ := ok.sl
  obtain ⟨a, vs, h1, h2, h3, h4⟩ := sl.getOwn e
  exact ⟨a, vs, h1, sub a h2, h3, h4⟩
end
/-! ### readings -/
abbrev TD := List Slot → (D → Prop) → Prop
abbrev TDA := List Slot → (List D → Prop) → Prop
abbrev TDT := List Slot → (Bool → Prop) → Prop
structure DEnds where
  nx : List Slot → Prop
  rt : D → Prop
  bk : List Slot → Prop := fun _ => False
  ct : List Slot → Prop := fun _ => False
abbrev TDS := DEnds → List Slot → Prop
structure DEnds.Le (D1 D2 : DEnds) : Prop where
  nx : ∀ δ, D1.nx δ → D2.nx δ
  rt : ∀ d, D1.rt d → D2.rt d
  bk : ∀ δ, D1.bk δ → D2.bk δ
  ct : ∀ δ, D1.ct δ → D2.ct δ

/-- what is wanted of a value, said of data -/
def Post (g : Gh) (A : List Addr) (H : Hp) (Q : VK) : D → Prop := fun d => ∀ v H', Ext g.V H H' → JD g.toCn H' → Rep g.toCn (g.bar A) H' v d → Q v H'
def PostA (g : Gh) (A : List Addr) (H : Hp) (Q : List V → Hp → Prop) : List D → Prop := fun ds => ∀ vs H', Ext g.V H H' → JD g.toCn H' → Reps g.toCn (g.bar A) H' vs ds → Q vs H'
def PostT (g : Gh) (A : List Addr) (H : Hp) (Q : Bool → Hp → Prop) : Bool → Prop := fun b => ∀ H', Ext g.V H H' → JD g.toCn H' → Q b H'
def LiftE (g : Gh) (t : TD) : TE := fun σ H Q => ∃ A δ, Ok g A δ σ H ∧ t δ (Post g A H Q)
def LiftA (g : Gh) (t : TDA) : TA := fun σ H Q => ∃ A δ, Ok g A δ σ H ∧ t δ (PostA g A H Q)
def LiftT (g : Gh) (t : TDT) : TT := fun σ H Q => ∃ A δ, Ok g A δ σ H ∧ t δ (PostT g A H Q)
structure DE (X : Cx) (g : Gh) (e : Expr) (t : TD) : Prop where
  pe : PE X e (LiftE g t)
  mono : ∀ δ (K K' : D → Prop), (∀ d, K d → K' d) → t δ K → t δ K'
structure DA (X : Cx) (g : Gh) (es : List Expr) (t : TDA) : Prop where
  pa : PA X es (LiftA g t)
  mono : ∀ δ (K K' : List D → Prop), (∀ d, K d → K' d) → t δ K → t δ K'
structure DT (X : Cx) (g : Gh) (e : Expr) (t : TDT) : Prop where
  pt : PT X e (LiftT g t)
  mono : ∀ δ (K K' : Bool → Prop), (∀ d, K d → K' d) → t δ K → t δ K'
/-- the ends of a statement, said of data -/
def PostS (g : Gh) (A : List Addr) (H : Hp) (N : Ends) : DEnds where
  nx δ := ∀ σ' A' H', Ok g A' δ σ' H' → Later g A H A' H' → N.nx σ' H'
  rt d := ∀ v H', J g.toCn H' → Ext g.V g.H0 H' → Rep g.toCn g.F H' v d → N.rt v H'
  bk δ := ∀ σ' A' H', Ok g A' δ σ' H' → Later g A H A' H' → N.bk σ' H'
  ct δ := ∀ σ' A' H', Ok g A' δ σ' H' → Later g A H A' H' → N.ct σ' H'
def LiftS (g : Gh) (t : TDS) : TS := fun N σ H => ∃ A δ, Ok g A δ σ H ∧ t (PostS g A H N) δ
structure DS (X : Cx) (g : Gh) (st : Stmt) (t : TDS) : Prop where
  ps : PS X st (LiftS g t)
  mono : ∀ D1 D2 δ, DEnds.Le D1 D2 → t D1 δ → t D2 δ
structure DSs (X : Cx) (g : Gh) (st : List Stmt) (t : TDS) : Prop where
  pss : PSs X st (LiftS g t)
  mono : ∀ D1 D2 δ, DEnds.Le D1 D2 → t D1 δ → t D2 δ

theorem PE.weak {X : Cx} {e : Expr} {t t' : TE} (h : PE X e t) (w : ∀ σ H Q, t' σ H Q → t σ H Q) : PE X e t' := ⟨fun pins s σ H Q I q => h.run pins s σ H Q I (w σ H Q q)⟩
theorem PA.weak {X : Cx} {e : List Expr} {t t' : TA} (h : PA X e t) (w : ∀ σ H Q, t' σ H Q → t σ H Q) : PA X e t' := ⟨fun pos pins s σ H Q I q => h.run pos pins s σ H Q I (w σ H Q q)⟩
theorem PT.weak {X : Cx} {e : Expr} {t t' : TT} (h : PT X e t) (w : ∀ σ H Q, t' σ H Q → t σ H Q) : PT X e t' := ⟨fun pins s σ H Q I q => h.run pins s σ H Q I (w σ H Q q)⟩
theorem PS.weak {X : Cx} {e : Stmt} {t t' : TS} (h : PS X e t) (w : ∀ N σ H, t' N σ H → t N σ H) : PS X e t' := ⟨fun pins s σ H N I q => h.run pins s σ H N I (w N σ H q)⟩
theorem PSs.weak {X : Cx} {e : List Stmt} {t t' : TS} (h : PSs X e t) (w : ∀ N σ H, t' N σ H → t N σ H) : PSs X e t' := ⟨fun pins s σ H N I q => h.run pins s σ H N I (w N σ H q)⟩

section
variable {X : Cx} {g : Gh} {e a b : Expr} {es : List Expr} {t ta tb : TD} {tas : TDA} {pos : Pos}
/-- one part: what is asked of it by value -/
theorem lift1 (ha : DE X g a ta) {σ : St} {H : Hp} {k : D → (D → Prop) → Prop} {R : V → Hp → Prop} {P : Gh → List Addr → Hp → D → Prop}
    (h : ∃ A δ, Ok g A δ σ H ∧ ta δ (P g A H)) (hk : ∀ A δ d v H1, Ok g A δ σ H1 → Ext g.V H H1 → Rep g.toCn (g.bar A) H1 v d → P g A H d → R v H1) : LiftE g ta σ H R := by
  obtain ⟨A, δ, ok, h⟩ := h
  exact ⟨A, δ, ok, ha.mono _ _ _ (fun d hd v H1 e j r => hk A δ d v H1 (ok.step e j) e r hd) h⟩

/-! ### names, constants -/
def dVar (i : Nat) : TD := fun δ K => match δ[i]? with
  | some (.val d) => K d
  | _ => False
theorem de_var (i : Nat) {x : Str} {p : Pos} (hN : X.N[i]? = some x := by rfl) (hv : Vis X.env.scope x := by first | exact Or.inl rfl | exact Or.inr (Or.inl rfl) | exact Or.inr (Or.inr rfl)) (hd : (x == ("__debug__" : Str)) = false := by decide)
    (hcd : (x == ("__classdict__" : Str)) = false := by decide) : DE X g (.Name x p) (dVar i) := by
  refine ⟨PE.weak (pe_var hN hv hd hcd) fun σ H Q h => ?_, fun δ K K' hk h => ?_⟩
  · obtain ⟨A, δ, ok, h⟩ := h
    unfold dVar at h
    split at h
    · rename_i d e
      obtain ⟨v, e1, r⟩ := ok.get e
      exact ⟨v, e1, h v H (Ext.refl _ _) ok.jd r⟩
    · exact h.elim
  · unfold dVar at h ⊢
    split at h
    · exact hk _ h
    · exact h.elim
def dC (d : D) : TD := fun _ K => K d
theorem de_int {i j} : DE X g (.Constant (.int i) j pos) (dC (.int i)) := ⟨PE.weak pe_int fun σ H Q ⟨A, δ, ok, h⟩ => h _ H (Ext.refl _ _) ok.jd (.int i), fun _ _ _ hk h => hk _ h⟩
theorem de_bl {i j} : DE X g (.Constant (.bool i) j pos) (dC (.bl i)) := ⟨PE.weak pe_bl fun σ H Q ⟨A, δ, ok, h⟩ => h _ H (Ext.refl _ _) ok.jd (.bl i), fun _ _ _ hk h => hk _ h⟩
theorem de_non {j} : DE X g (.Constant .none j pos) (dC .non) := ⟨PE.weak pe_non fun σ H Q ⟨A, δ, ok, h⟩ => h _ H (Ext.refl _ _) ok.jd .non, fun _ _ _ hk h => hk _ h⟩
theorem de_str {i j} : DE X g (.Constant (.str i) j pos) (dC (.str i)) := ⟨PE.weak pe_str fun σ H Q ⟨A, δ, ok, h⟩ => h _ H (Ext.refl _ _) ok.jd (.str i), fun _ _ _ hk h => hk _ h⟩
/-- a def of the module as a value -/
theorem de_fn {x : Str} {f : Addr} {p : Pos} (hg : Gl X x) (hm : X.mg x = some (.ref f)) (hc : g.mg = X.mg) (hd : (x == ("__debug__" : Str)) = false := by decide) : DE X g (.Name x p) (dC (.fn x)) :=
  ⟨PE.weak (pe_glob (v := .ref f) hg hm rfl hd) fun σ H Q ⟨A, δ, ok, h⟩ => h _ H (Ext.refl _ _) ok.jd (.fn (by rw [hc]; exact hm)), fun _ _ _ hk h => hk _ h⟩
/-- a constant int of the module -/
theorem de_gint {x : Str} {i : Int} {u : Tok} {p : Pos} (hg : Gl X x) (hm : X.mg x = some (.int i u)) (hd : (x == ("__debug__" : Str)) = false := by decide) : DE X g (.Name x p) (dC (.int i)) :=
  ⟨PE.weak (pe_glob (v := .int i) hg hm ⟨_, rfl⟩ hd) fun σ H Q ⟨A, δ, ok, h⟩ => h _ H (Ext.refl _ _) ok.jd (.int i), fun _ _ _ hk h => hk _ h⟩

/-! ### operators by value -/
/-- an operator's meaning over data -/
def OpD (g : Gh) (r : R2) (k : D → D → (D → Prop) → Prop) : Prop := ∀ (A : List Addr) (δ : List Slot) (σ : St) (H : Hp) (x y : V) (dx dy : D) (Q : VK), Ok g A δ σ H → Rep g.toCn (g.bar A) H x dx → Rep g.toCn (g.bar A) H y dy → k dx dy (Post g A H Q) → r x y H Q
def Mono2 (k : D → D → (D → Prop) → Prop) : Prop := ∀ x y (K K' : D → Prop), (∀ d, K d → K' d) → k x y K → k x y K'
def dOp (k : D → D → (D → Prop) → Prop) (ta tb : TD) : TD := fun δ K => ta δ fun x => tb δ fun y => k x y K
theorem Post.step {A : List Addr} {H H1 : Hp} {Q : VK} {d : D} (e : Ext g.V H H1) (h : Post g A H Q d) : Post g A H1 Q d := fun v H2 e2 j r => h v H2 (e.trans e2) j r
theorem PostA.step {A : List Addr} {H H1 : Hp} {Q : List V → Hp → Prop} {d : List D} (e : Ext g.V H H1) (h : PostA g A H Q d) : PostA g A H1 Q d := fun v H2 e2 j r => h v H2 (e.trans e2) j r
theorem PostT.step {A : List Addr} {H H1 : Hp} {Q : Bool → Hp → Prop} {d : Bool} (e : Ext g.V H H1) (h : PostT g A H Q d) : PostT g A H1 Q d := fun H2 e2 j => h H2 (e.trans e2) j
theorem op_lift {r : R2} {k : D → D → (D → Prop) → Prop} (hk : OpD g r k) (km : Mono2 k) (ha : DE X g a ta) (hb : DE X g b tb) {σ : St} {H : Hp} {Q : VK} (h : LiftE g (dOp k ta tb) σ H Q) : tOp r (LiftE g ta) (LiftE g tb) σ H Q := by
  obtain ⟨A, δ, ok, h⟩ := h
  refine ⟨A, δ, ok, ha.mono _ _ _ (fun x hx v H1 e1 j1 r1 => ?_) h⟩
  have ok1 := ok.step e1 j1
  refine ⟨A, δ, ok1, hb.mono _ _ _ (fun y hy w H2 e2 j2 r2 => ?_) hx⟩
  have ok2 := ok1.step e2 j2
  exact hk A δ σ H2 v w x y Q ok2 (r1.ext (e2.mono fun b hb => .inl (ok.fW b hb))) r2 (km _ _ _ _ (fun d hd => Post.step (e1.trans e2) hd) hy)
theorem op_mono {k : D → D → (D → Prop) → Prop} (km : Mono2 k) (ha : DE X g a ta) (hb : DE X g b tb) : ∀ δ (K K' : D → Prop), (∀ d, K d → K' d) → dOp k ta tb δ K → dOp k ta tb δ K' :=
  fun δ K K' hk h => ha.mono _ _ _ (fun x hx => hb.mono _ _ _ (fun y hy => km _ _ _ _ hk hy) hx) h
theorem de_op {op : Operator} {r : R2} {k : D → D → (D → Prop) → Prop} (ho : OpR X (binaryOp op) r) (hk : OpD g r k) (km : Mono2 k) (ha : DE X g a ta) (hb : DE X g b tb) : DE X g (.BinOp a op b pos) (dOp k ta tb) :=
  ⟨PE.weak (pe_op ho ha.pe hb.pe) fun σ H Q h => op_lift hk km ha hb h, op_mono km ha hb⟩
theorem de_cmp {op : CmpOp} {r : R2} {k : D → D → (D → Prop) → Prop} (ho : OpR X (compareOp op) r) (hk : OpD g r k) (km : Mono2 k) (ha : DE X g a ta) (hb : DE X g b tb) (hm : behindInMarks op b = false) : DE X g (.Compare a [op] [b] pos) (dOp k ta tb) :=
  ⟨PE.weak (pe_cmpR ho ha.pe hb.pe hm) fun σ H Q h => op_lift hk km ha hb h, op_mono km ha hb⟩
/-- .. a bool, as a test -/
def Kb (K : Bool → Prop) : D → Prop
  | .bl k => K k
  | _ => False
def dTest (t : TD) : TDT := fun δ K => t δ (Kb K)
theorem test_lift {t : TE} {H : Hp} {σ : St} {Q : Bool → Hp → Prop} {A : List Addr} {d : D} (h : Kb (PostT g A H Q) d) : Post g A H (fun x H1 => ∃ k, x = V.bl k ∧ Q k H1) d := by
  intro v H1 e j r
  cases r with
  | bl k => exact ⟨k, rfl, h H1 e j⟩
  | _ => exact (show False from h).elim
theorem dt_cmp {op : CmpOp} {r : R2} {k : D → D → (D → Prop) → Prop} (ho : OpR X (compareOp op) r) (hk : OpD g r k) (km : Mono2 k) (ha : DE X g a ta) (hb : DE X g b tb) (hm : behindInMarks op b = false) : DT X g (.Compare a [op] [b] pos) (dTest (dOp k ta tb)) := by
  refine ⟨PT.weak (pt_cmpR ho ha.pe hb.pe hm) fun σ H Q h => ?_, fun δ K K' hk' h => op_mono km ha hb _ _ _ (fun d hd => ?_) h⟩
  · obtain ⟨A, δ, ok, h⟩ := h
    exact op_lift hk km ha hb ⟨A, δ, ok, op_mono km ha hb _ _ _ (fun d hd => test_lift (t := fun _ _ _ => True) (σ := []) hd) h⟩
  · cases d <;> first | exact hk' _ hd | exact (show False from hd).elim
end
end DL

set_option Elab.async false
set_option linter.all false
set_option maxRecDepth 100000
set_option maxHeartbeats 4000000
/-! DL3: the operators over data. -/
namespace DL
open PySem PySem.Spec PyProof.Rows L2

mutual
/-- data that repr and == know by the library -/
def toPy : D → Option PyData
  | .non => some .none
  | .bl b => some (.bool b)
  | .int i => some (.int i)
  | .str s => some (.str s)
  | .tup xs => (toPys xs).map .tuple
  | .lst xs => (toPys xs).map .list
  | .dct _ => none
  | .obj _ _ => none
  | .fn _ => none
  | .pen => none
  | .ptr _ => none
def toPys : List D → Option (List PyData)
  | [] => some []
  | d :: ds => (toPy d).bind fun p => (toPys ds).map fun ps => p :: ps
end
section
variable {c : Cn} {F : Addr → Prop} {H : Hp}
mutual
theorem Rep.dp : ∀ {v : V} {d : D} {p : PyData}, Rep c F H v d → toPy d = some p → Dp c.K H v p
  | _, _, _, .non, e => by simp [toPy] at e; subst e; exact .non
  | _, _, _, .bl b, e => by simp [toPy] at e; subst e; exact .bl b
  | _, _, _, .int i, e => by simp [toPy] at e; subst e; exact .int i
  | _, _, _, .str s, e => by simp [toPy] at e; subst e; exact .str s
  | _, .tup ds, _, .tup r n rs, e => by
    simp only [toPy, Option.map_eq_some_iff] at e
    obtain ⟨ps, e1, e2⟩ := e
    subst e2
    exact .tup (.inl r) (Reps.dp rs e1)
  | _, .tup ds, _, .tupK r rs, e => by
    simp only [toPy, Option.map_eq_some_iff] at e
    obtain ⟨ps, e1, e2⟩ := e
    subst e2
    exact .tup (r H) (Reps.dp rs e1)
  | _, .lst ds, _, .lst r n rs, e => by
    simp only [toPy, Option.map_eq_some_iff] at e
    obtain ⟨ps, e1, e2⟩ := e
    subst e2
    exact .lst (.of r) (Reps.dp rs e1)
  | _, _, _, .dct r n rs, e => by simp [toPy] at e
  | _, _, _, .obj r n m rs, e => by simp [toPy] at e
  | _, _, _, .fn m, e => by simp [toPy] at e
  | _, _, _, .pen m, e => by simp [toPy] at e
  | _, _, _, .ptr a, e => by simp [toPy] at e
theorem Reps.dp : ∀ {vs : List V} {ds : List D} {ps : List PyData}, Reps c F H vs ds → toPys ds = some ps → DpAll c.K H vs ps
  | _, _, _, .nil, e => by simp [toPys] at e; subst e; exact .nil
  | _, d :: ds, _, .cons r rs, e => by
    simp only [toPys, Option.bind_eq_some_iff, Option.map_eq_some_iff] at e
    obtain ⟨p, e1, ps, e2, e3⟩ := e
    subst e3
    exact .cons (Rep.dp r e1) (Reps.dp rs e2)
end
end

section
variable {X : Cx} {g : Gh}
theorem opD_or {r r' : R2} {k k' : D → D → (D → Prop) → Prop} (h : OpD g r k) (h' : OpD g r' k') : OpD g (fun x y H Q => r x y H Q ∨ r' x y H Q) (fun x y K => k x y K ∨ k' x y K) := fun A δ σ H x y dx dy Q ok rx ry q =>
  q.elim (fun q => .inl (h A δ σ H x y dx dy Q ok rx ry q)) fun q => .inr (h' A δ σ H x y dx dy Q ok rx ry q)
/-- two ints -/
def kI (C : Int → Int → Prop) (f : Int → Int → D) : D → D → (D → Prop) → Prop
  | .int i, .int j, K => C i j ∧ K (f i j)
  | _, _, _ => False
theorem kI_mono {C : Int → Int → Prop} {f : Int → Int → D} : Mono2 (kI C f) := fun x y K K' h q => by
  cases x <;> cases y <;> first | exact ⟨q.1, h _ q.2⟩ | exact (show False from q).elim
theorem opI_D {C : Int → Int → Prop} {f : Int → Int → Int} : OpD g (rI C fun i j => .int (f i j)) (kI C fun i j => .int (f i j)) := fun A δ σ H x y dx dy Q ok rx ry q => by
  cases rx <;> cases ry <;> first
    | exact ⟨_, _, rfl, rfl, q.1, q.2 _ H (Ext.refl _ _) ok.jd (.int _)⟩
    | exact (show False from q).elim
def kI0 (f : Int → Int → D) : D → D → (D → Prop) → Prop
  | .int i, .int j, K => K (f i j)
  | _, _, _ => False
theorem kI0_mono {f : Int → Int → D} : Mono2 (kI0 f) := fun x y K K' h q => by
  cases x <;> cases y <;> first | exact h _ q | exact (show False from q).elim
theorem opI0_D {f : Int → Int → Int} : OpD g (rI0 fun i j => .int (f i j)) (kI0 fun i j => .int (f i j)) := fun A δ σ H x y dx dy Q ok rx ry q => by
  cases rx <;> cases ry <;> first
    | exact ⟨_, _, rfl, rfl, q _ H (Ext.refl _ _) ok.jd (.int _)⟩
    | exact (show False from q).elim
theorem opB0_D {f : Int → Int → Bool} : OpD g (rI0 fun i j => .bl (f i j)) (kI0 fun i j => .bl (f i j)) := fun A δ σ H x y dx dy Q ok rx ry q => by
  cases rx <;> cases ry <;> first
    | exact ⟨_, _, rfl, rfl, q _ H (Ext.refl _ _) ok.jd (.bl _)⟩
    | exact (show False from q).elim

/-! ### + -/
def kAdd : D → D → (D → Prop) → Prop
  | .int i, .int j, K => K (.int (i + j))
  | .str x, .str y, K => x.length + y.length ≤ sizeLine ∧ K (.str (x ++ y))
  | .lst x, .lst y, K => x.length + y.length ≤ sizeLine ∧ K (.lst (x ++ y))
  | .tup x, .tup y, K => x.length + y.length ≤ sizeLine ∧ K (.tup (x ++ y))
  | _, _, _ => False
theorem kAdd_mono : Mono2 kAdd := fun x y K K' h q => by
  cases x <;> cases y <;> first | exact h _ q | exact ⟨q.1, h _ q.2⟩ | exact (show False from q).elim
abbrev rAddAll (K : PySem.W.Frag) : R2 := fun x y H Q => ((rI0 fun i j => .int (i + j)) x y H Q ∨ (∃ i j, x = .str i ∧ y = .str j ∧ i.length + j.length ≤ sizeLine ∧ Q (.str (i ++ j)) H)) ∨ (rCat x y H Q ∨ rCatA K x y H Q)
theorem op_addAll : OpR X (binaryOp .Add) (rAddAll X.K) := OpR.or (OpR.or op_add op_add_str) (OpR.or op_cat op_catA)
theorem opAdd_D (hK : g.K = X.K) : OpD g (rAddAll X.K) kAdd := fun A δ σ H x y dx dy Q ok rx ry q => by
  rw [← hK]
  cases dx with
  | int i => cases dy with
    | int j =>
      cases rx; cases ry
      exact .inl (.inl ⟨_, _, rfl, rfl, q _ H (Ext.refl _ _) ok.jd (.int _)⟩)
    | _ => exact (show False from q).elim
  | str i => cases dy with
    | str j =>
      cases rx; cases ry
      exact .inl (.inr ⟨_, _, rfl, rfl, q.1, q.2 _ H (Ext.refl _ _) ok.jd (.str _)⟩)
    | _ => exact (show False from q).elim
  | lst ds => cases dy with
    | lst es =>
      obtain ⟨a, vs, rfl, r, rs⟩ := rx.isLst
      obtain ⟨b, ws, rfl, r', rs'⟩ := ry.isLst
      refine .inr (.inl ⟨_, _, _, _, rfl, rfl, r, r', by rw [rs.length, rs'.length]; exact q.1, fun p hp => ?_⟩)
      exact q.2 _ _ (Ext.new hp) (ok.jd.new hp) (.lst upd_same (ok.fresh hp) ((rs.append rs').ext (Ext.new hp)))
    | _ => exact (show False from q).elim
  | tup ds => cases dy with
    | tup es =>
      obtain ⟨a, vs, e1, r, rs⟩ := rx.isTup
      obtain ⟨b, ws, e2, r', rs'⟩ := ry.isTup
      subst e1; subst e2
      refine .inr (.inr ⟨_, _, _, _, rfl, rfl, r, r', by rw [rs.length, rs'.length]; exact q.1, fun e => ?_, fun e1 e2 => ?_, fun e1 e2 p hp => ?_⟩)
      · subst e
        cases rs
        exact q.2 _ H (Ext.refl _ _) ok.jd ry
      · subst e2
        cases rs'
        have q2 := q.2 _ H (Ext.refl _ _) ok.jd (by rw [List.append_nil]; exact rx)
        exact q2
      · exact q.2 _ _ (Ext.new hp) (ok.jd.new hp) (.tup (.of upd_same) (ok.fresh hp) ((rs.append rs').ext (Ext.new hp)))
    | _ => exact (show False from q).elim
  | _ => exact (show False from q).elim
theorem de_add (hK : g.K = X.K) {a b : Expr} {ta tb : TD} {pos : Pos} (ha : DE X g a ta) (hb : DE X g b tb) : DE X g (.BinOp a .Add b pos) (dOp kAdd ta tb) := de_op op_addAll (opAdd_D hK) kAdd_mono ha hb
abbrev kSub := kI0 fun i j => D.int (i - j)
abbrev kFdiv := kI CDivW fun i j => D.int (i / j)
abbrev kMod := kI (fun _ j => 0 < j) fun i j => D.int (i % j)
abbrev kPow := kI CPow fun i j => D.int (i ^ j.toNat)
abbrev kLt := kI0 fun i j => D.bl (decide (i < j))
abbrev kLe := kI0 fun i j => D.bl (decide (i ≤ j))
abbrev kGt := kI0 fun i j => D.bl (decide (j < i))
abbrev kGe := kI0 fun i j => D.bl (decide (j ≤ i))
section
variable {a b : Expr} {ta tb : TD} {pos : Pos}
theorem de_sub (ha : DE X g a ta) (hb : DE X g b tb) : DE X g (.BinOp a .Sub b pos) (dOp kSub ta tb) := de_op op_sub opI0_D kI0_mono ha hb
theorem de_fdiv (ha : DE X g a ta) (hb : DE X g b tb) : DE X g (.BinOp a .FloorDiv b pos) (dOp kFdiv ta tb) := de_op op_fdivW opI_D kI_mono ha hb
theorem de_mod (ha : DE X g a ta) (hb : DE X g b tb) : DE X g (.BinOp a .Mod b pos) (dOp kMod ta tb) := de_op op_mod opI_D kI_mono ha hb
theorem de_pow (ha : DE X g a ta) (hb : DE X g b tb) : DE X g (.BinOp a .Pow b pos) (dOp kPow ta tb) := de_op op_pow opI_D kI_mono ha hb
end
/-! ### * -/
/-- * where the factors together are of less than a million bits, or one of them is short -/
def CMulA (i j : Int) : Prop := CMulW i j ∨ i.natAbs < 2 ^ 63 ∨ j.natAbs < 2 ^ 63
theorem bits_short {i : Int} (h : i.natAbs < 2 ^ 63) : Builtin.Int.intBits i ≤ 64 := by
  unfold Builtin.Int.intBits
  split
  · omega
  · rename_i q
    have : i.natAbs.log2 < 63 := PySem.Flt.log2_lt_of (by decide) h
    omega
theorem CMulA.ok {i j : Int} (h : CMulA i j) : IntMulOk i j := by
  rcases h with h | h | h
  · exact h.ok
  · exact IntMulOk.of_left (bits_short h)
  · exact IntMulOk.of_right (bits_short h)
theorem op_mulA {X : Cx} : OpR X (binaryOp .Mult) (rI CMulA fun i j => .int (i * j)) := opI fun _ _ _ _ _ _ _ hc q => mul_int q hc.ok
theorem mul_l {i j : Int} (h : i.natAbs < 2 ^ 63) : CMulA i j := .inr (.inl h)
theorem mul_r {i j : Int} (h : j.natAbs < 2 ^ 63) : CMulA i j := .inr (.inr h)
def kMul : D → D → (D → Prop) → Prop
  | .int i, .int j, K => CMulA i j ∧ K (.int (i * j))
  | .lst xs, .int k, K => -(2 ^ 63) ≤ k ∧ k < 2 ^ 63 ∧ xs.length * k.toNat ≤ sizeLine ∧ K (.lst (List.replicate k.toNat xs).flatten)
  | _, _, _ => False
theorem kMul_mono : Mono2 kMul := fun x y K K' h q => by
  cases x <;> cases y <;> first | exact ⟨q.1, h _ q.2⟩ | exact ⟨q.1, q.2.1, q.2.2.1, h _ q.2.2.2⟩ | exact (show False from q).elim
theorem Reps.replicate {c : Cn} {F : Addr → Prop} {H : Hp} {vs : List V} {ds : List D} (r : Reps c F H vs ds) : ∀ k : Nat, Reps c F H (List.replicate k vs).flatten (List.replicate k ds).flatten
  | 0 => .nil
  | k + 1 => by
    rw [List.replicate_succ, List.replicate_succ, List.flatten_cons, List.flatten_cons]
    exact r.append (Reps.replicate r k)
theorem opMul_D : OpD g (fun x y H Q => (rI CMulA fun i j => .int (i * j)) x y H Q ∨ rRep x y H Q) kMul := fun A δ σ H x y dx dy Q ok rx ry q => by
  cases dx with
  | int i => cases dy with
    | int j =>
      cases rx; cases ry
      exact .inl ⟨_, _, rfl, rfl, q.1, q.2 _ H (Ext.refl _ _) ok.jd (.int _)⟩
    | _ => exact (show False from q).elim
  | lst ds => cases dy with
    | int k =>
      obtain ⟨a, vs, rfl, r, rs⟩ := rx.isLst
      cases ry
      refine .inr ⟨_, _, _, rfl, rfl, r, q.1, q.2.1, by rw [rs.length]; exact q.2.2.1, fun p hp => ?_⟩
      exact q.2.2.2 _ _ (Ext.new hp) (ok.jd.new hp) (.lst upd_same (ok.fresh hp) ((rs.replicate _).ext (Ext.new hp)))
    | _ => exact (show False from q).elim
  | _ => exact (show False from q).elim
theorem de_mul {a b : Expr} {ta tb : TD} {pos : Pos} (ha : DE X g a ta) (hb : DE X g b tb) : DE X g (.BinOp a .Mult b pos) (dOp kMul ta tb) := de_op (OpR.or op_mulA op_rep) opMul_D kMul_mono ha hb

/-! ### ==, != -/
def eqP (x y : D) (K : Bool → Prop) : Prop := ∃ p q, toPy x = some p ∧ toPy y = some q ∧ SeqAt.shaped p = true ∧ SeqAt.shaped q = true ∧ K (PyData.eqv p q)
def kEq : D → D → (D → Prop) → Prop
  | .int i, .int j, K => K (.bl (decide (i = j)))
  | x, y, K => eqP x y fun b => K (.bl b)
def kNe : D → D → (D → Prop) → Prop
  | .int i, .int j, K => K (.bl (!decide (i = j)))
  | x, y, K => eqP x y fun b => K (.bl (!b))
theorem eqP_mono {x y : D} {K K' : Bool → Prop} (h : ∀ b, K b → K' b) (q : eqP x y K) : eqP x y K' := by
  obtain ⟨p, r, e1, e2, e3, e4, k⟩ := q
  exact ⟨p, r, e1, e2, e3, e4, h _ k⟩
theorem eqP_int {i j : Int} {K : Bool → Prop} (h : K (decide (i = j))) : eqP (.int i) (.int j) K := by
  refine ⟨.int i, .int j, rfl, rfl, by rfl, by rfl, ?_⟩
  have e : PyData.eqv (.int i) (.int j) = decide (i = j) := by
    show (i == j) = decide (i = j)
    exact Bool.beq_eq_decide_eq ..
  rw [e]; exact h
theorem kEq_all {x y : D} {K : D → Prop} (h : kEq x y K) : eqP x y fun b => K (.bl b) := by
  cases x with
  | int i => cases y with
    | int j => exact eqP_int h
    | _ => exact h
  | _ => exact h
theorem kNe_all {x y : D} {K : D → Prop} (h : kNe x y K) : eqP x y fun b => K (.bl (!b)) := by
  cases x with
  | int i => cases y with
    | int j => exact eqP_int h
    | _ => exact h
  | _ => exact h
theorem kEq_mono : Mono2 kEq := fun x y K K' h q => by
  cases x with
  | int i => cases y with
    | int j => exact h _ q
    | _ => exact eqP_mono (fun b hb => h _ hb) q
  | _ => exact eqP_mono (fun b hb => h _ hb) q
theorem kNe_mono : Mono2 kNe := fun x y K K' h q => by
  cases x with
  | int i => cases y with
    | int j => exact h _ q
    | _ => exact eqP_mono (K := fun b => K (.bl (!b))) (fun b hb => h _ hb) q
  | _ => exact eqP_mono (K := fun b => K (.bl (!b))) (fun b hb => h _ hb) q
theorem opEq_D (hK : g.K = X.K) : OpD g (rEqD X.K) kEq := fun A δ σ H x y dx dy Q ok rx ry q => by
  rw [← hK]
  obtain ⟨p, r, e1, e2, e3, e4, k⟩ := kEq_all q
  exact ⟨p, r, rx.dp e1, ry.dp e2, e3, e4, k _ H (Ext.refl _ _) ok.jd (.bl _)⟩
theorem opNe_D (hK : g.K = X.K) : OpD g (rNeD X.K) kNe := fun A δ σ H x y dx dy Q ok rx ry q => by
  rw [← hK]
  obtain ⟨p, r, e1, e2, e3, e4, k⟩ := kNe_all q
  exact ⟨p, r, rx.dp e1, ry.dp e2, e3, e4, k _ H (Ext.refl _ _) ok.jd (.bl _)⟩
section
variable {a b : Expr} {ta tb : TD} {pos : Pos}
theorem de_eq (hK : g.K = X.K) (hu : X.A.units + 64 < cLine) (ha : DE X g a ta) (hb : DE X g b tb) : DE X g (.Compare a [.Eq] [b] pos) (dOp kEq ta tb) := de_cmp (op_eqD hu) (opEq_D hK) kEq_mono ha hb (nomark _)
theorem de_ne (hK : g.K = X.K) (hu : X.A.units + 64 < cLine) (ha : DE X g a ta) (hb : DE X g b tb) : DE X g (.Compare a [.NotEq] [b] pos) (dOp kNe ta tb) := de_cmp (op_neD hu) (opNe_D hK) kNe_mono ha hb (nomark _)
theorem de_lt (ha : DE X g a ta) (hb : DE X g b tb) : DE X g (.Compare a [.Lt] [b] pos) (dOp kLt ta tb) := de_cmp op_lt opB0_D kI0_mono ha hb (nomark _)
theorem de_le (ha : DE X g a ta) (hb : DE X g b tb) : DE X g (.Compare a [.LtE] [b] pos) (dOp kLe ta tb) := de_cmp op_le opB0_D kI0_mono ha hb (nomark _)
theorem de_gt (ha : DE X g a ta) (hb : DE X g b tb) : DE X g (.Compare a [.Gt] [b] pos) (dOp kGt ta tb) := de_cmp op_gt opB0_D kI0_mono ha hb (nomark _)
theorem de_ge (ha : DE X g a ta) (hb : DE X g b tb) : DE X g (.Compare a [.GtE] [b] pos) (dOp kGe ta tb) := de_cmp op_ge opB0_D kI0_mono ha hb (nomark _)
end
/-! ### is -/
def dIsNon : D → Bool
  | .non => true
  | _ => false
/-- the right side None, True or False -/
def isD : D → D → Option Bool
  | x, .non => some (dIsNon x)
  | .bl a, .bl b => some (a == b)
  | _, .bl _ => some false
  | _, _ => none
def kIs (x y : D) (K : D → Prop) : Prop := ∃ b, isD x y = some b ∧ K (.bl b)
def kIsN (x y : D) (K : D → Prop) : Prop := ∃ b, isD x y = some b ∧ K (.bl (!b))
theorem kIs_mono : Mono2 kIs := fun x y K K' h ⟨b, e, q⟩ => ⟨b, e, h _ q⟩
theorem kIsN_mono : Mono2 kIsN := fun x y K K' h ⟨b, e, q⟩ => ⟨b, e, h _ q⟩
/-- x is y, y None, True or False, by values -/
def isV : V → V → Option Bool
  | x, .non => some (decide (x = .non))
  | .bl a, .bl b => some (a == b)
  | _, .bl _ => some false
  | _, _ => none
theorem is_boolc {M : Model} {A : Around} {E : Value → Shared → Prop} {s : Shared} {Q : Value → Shared → Prop} {v : Value} {b : Bool} (hv : ∀ i, v ≠ .builtin i) (h : Q (.bool (v == .bool b)) s) : wpAny M A (compareOp .Is v (.bool b)) Q E s := by
  cases v <;> first | exact wpAny_pure h | exact absurd rfl (hv _)
theorem isnot_boolc {M : Model} {A : Around} {E : Value → Shared → Prop} {s : Shared} {Q : Value → Shared → Prop} {v : Value} {b : Bool} (hv : ∀ i, v ≠ .builtin i) (h : Q (.bool (!(v == .bool b))) s) : wpAny M A (compareOp .IsNot v (.bool b)) Q E s := by
  cases v <;> first | exact wpAny_pure h | exact absurd rfl (hv _)
theorem RelV.noblt {x : V} {v : Value} (r : RelV x v) : ∀ i, v ≠ .builtin i := fun i z => by
  subst z
  cases x <;> first
    | (obtain ⟨t, e⟩ := r; cases e)
    | cases r
theorem op_isV : OpR X (compareOp .Is) (fun x y H Q => ∃ b, isV x y = some b ∧ Q (.bl b) H) := by
  intro pins s σ H x y v u Q I rx ry h
  obtain ⟨b, e, q⟩ := h
  cases y with
  | non =>
    cases ry
    refine is_none_gen (fin_bl I q ?_)
    have e2 : decide (x = .non) = b := Option.some.inj (by simpa [isV] using e)
    rw [← e2]
    cases x <;> first
      | (cases rx; rfl)
      | (obtain ⟨t, rfl⟩ := rx; rfl)
  | bl c =>
    cases ry
    refine is_boolc (DL.RelV.noblt rx) (fin_bl I q ?_)
    cases x with
    | bl a =>
      cases rx
      have e2 : (a == c) = b := Option.some.inj (by simpa [isV] using e)
      rw [← e2]
      cases a <;> cases c <;> rfl
    | _ =>
      have e2 : false = b := Option.some.inj (by simpa [isV] using e)
      rw [← e2]
      first
        | (cases rx; rfl)
        | (obtain ⟨t, rfl⟩ := rx; rfl)
  | _ => simp [isV] at e
theorem op_isNotV : OpR X (compareOp .IsNot) (fun x y H Q => ∃ b, isV x y = some b ∧ Q (.bl (!b)) H) := by
  intro pins s σ H x y v u Q I rx ry h
  obtain ⟨b, e, q⟩ := h
  cases y with
  | non =>
    cases ry
    refine isnot_none_gen (fin_bl I q ?_)
    have e2 : decide (x = .non) = b := Option.some.inj (by simpa [isV] using e)
    rw [← e2]
    cases x <;> first
      | (cases rx; rfl)
      | (obtain ⟨t, rfl⟩ := rx; rfl)
  | bl c =>
    cases ry
    refine isnot_boolc (DL.RelV.noblt rx) (fin_bl I q ?_)
    cases x with
    | bl a =>
      cases rx
      have e2 : (a == c) = b := Option.some.inj (by simpa [isV] using e)
      rw [← e2]
      cases a <;> cases c <;> rfl
    | _ =>
      have e2 : false = b := Option.some.inj (by simpa [isV] using e)
      rw [← e2]
      first
        | (cases rx; rfl)
        | (obtain ⟨t, rfl⟩ := rx; rfl)
  | _ => simp [isV] at e
theorem isV_of {c : Cn} {F : Addr → Prop} {H : Hp} {x y : V} {dx dy : D} {b : Bool} (rx : Rep c F H x dx) (ry : Rep c F H y dy) (e : isD dx dy = some b) : isV x y = some b := by
  cases ry with
  | non =>
    have e2 : dIsNon dx = b := Option.some.inj (by simpa [isD] using e)
    rw [← e2]
    cases rx <;> rfl
  | bl c =>
    cases rx <;> simp [isD, isV] at e ⊢ <;> exact e
  | _ => cases dx <;> simp [isD] at e
theorem opIs_D : OpD g (fun x y H Q => ∃ b, isV x y = some b ∧ Q (.bl b) H) kIs := fun A δ σ H x y dx dy Q ok rx ry ⟨b, e, q⟩ => ⟨b, isV_of rx ry e, q _ H (Ext.refl _ _) ok.jd (.bl _)⟩
theorem opIsN_D : OpD g (fun x y H Q => ∃ b, isV x y = some b ∧ Q (.bl (!b)) H) kIsN := fun A δ σ H x y dx dy Q ok rx ry ⟨b, e, q⟩ => ⟨b, isV_of rx ry e, q _ H (Ext.refl _ _) ok.jd (.bl _)⟩
section
variable {a b : Expr} {ta tb : TD} {pos : Pos}
theorem de_is (ha : DE X g a ta) (hb : DE X g b tb) : DE X g (.Compare a [.Is] [b] pos) (dOp kIs ta tb) := de_cmp op_isV opIs_D kIs_mono ha hb (nomark _)
theorem de_isNot (ha : DE X g a ta) (hb : DE X g b tb) : DE X g (.Compare a [.IsNot] [b] pos) (dOp kIsN ta tb) := de_cmp op_isNotV opIsN_D kIsN_mono ha hb (nomark _)
end
/-! ### in, over flat items -/
def flatD : D → Bool
  | .non => true
  | .bl _ => true
  | .int _ => true
  | .str _ => true
  | _ => false
def eqDf : D → D → Bool
  | .non, .non => true
  | .bl a, .bl b => a == b
  | .bl a, .int b => (if a then 1 else 0) == b
  | .int a, .bl b => a == (if b then 1 else 0)
  | .int a, .int b => a == b
  | .str a, .str b => a == b
  | _, _ => false
def inD (x : D) (xs : List D) : Bool := xs.any fun y => eqDf y x
def itemsD : D → Option (List D)
  | .lst xs => some xs
  | .tup xs => some xs
  | _ => none
def kIn (x y : D) (K : D → Prop) : Prop := ∃ xs, itemsD y = some xs ∧ flatD x = true ∧ xs.all flatD = true ∧ K (.bl (inD x xs))
def kNotIn (x y : D) (K : D → Prop) : Prop := ∃ xs, itemsD y = some xs ∧ flatD x = true ∧ xs.all flatD = true ∧ K (.bl (!inD x xs))
theorem kIn_mono : Mono2 kIn := fun x y K K' h ⟨b, e, e1, e2, q⟩ => ⟨b, e, e1, e2, h _ q⟩
theorem kNotIn_mono : Mono2 kNotIn := fun x y K K' h ⟨b, e, e1, e2, q⟩ => ⟨b, e, e1, e2, h _ q⟩
section
variable {c : Cn} {F : Addr → Prop} {H : Hp}
theorem flatV_of {x : V} {d : D} (r : Rep c F H x d) (f : flatD d = true) : flatV x = true := by
  cases r <;> first | rfl | exact absurd (show false = true from f) Bool.false_ne_true
theorem flatVs_of : ∀ {xs : List V} {ds : List D}, Reps c F H xs ds → ds.all flatD = true → xs.all flatV = true
  | _, _, .nil, _ => rfl
  | _, _, .cons r rs, f => by
    rw [List.all_cons, Bool.and_eq_true] at f ⊢
    exact ⟨flatV_of r f.1, flatVs_of rs f.2⟩
theorem eqV_of {x y : V} {d e : D} (r : Rep c F H x d) (r' : Rep c F H y e) (f : flatD d = true) (f' : flatD e = true) : eqV x y = eqDf d e := by
  cases r <;> cases r' <;> first | rfl | exact absurd (show false = true from f) Bool.false_ne_true | exact absurd (show false = true from f') Bool.false_ne_true
theorem inV_of {x : V} {d : D} (r : Rep c F H x d) (f : flatD d = true) : ∀ {xs : List V} {ds : List D}, Reps c F H xs ds → ds.all flatD = true → inV x xs = inD d ds
  | _, _, .nil, _ => rfl
  | _, _, .cons q rs, f2 => by
    rw [List.all_cons, Bool.and_eq_true] at f2
    have ih := inV_of r f rs f2.2
    unfold inV inD at ih ⊢
    rw [List.any_cons, List.any_cons, eqV_of q r f2.1 f, ih]
theorem Rep.items {v : V} {d : D} {xs : List D} (r : Rep c F H v d) (e : itemsD d = some xs) : ∃ a vs, v = .ref a ∧ (SqL c.K H a vs ∨ SqT c.K H a vs) ∧ Reps c F H vs xs := by
  cases d with
  | lst ds =>
    cases e
    obtain ⟨a, vs, e1, e2, e3⟩ := r.isLst
    exact ⟨a, vs, e1, .inl (.of e2), e3⟩
  | tup ds =>
    cases e
    obtain ⟨a, vs, e1, e2, e3⟩ := r.isTup
    exact ⟨a, vs, e1, .inr e2, e3⟩
  | _ => cases e
end
theorem opIn_D (hK : g.K = X.K) : OpD g (rIn X.K false) kIn := fun A δ σ H x y dx dy Q ok rx ry ⟨xs, e, f1, f2, q⟩ => by
  rw [← hK]
  obtain ⟨a, vs, e1, e2, e3⟩ := ry.items e
  refine ⟨a, vs, e1, e2, flatV_of rx f1, flatVs_of e3 f2, ?_⟩
  show Q (.bl (inV x vs)) H
  rw [inV_of rx f1 e3 f2]
  exact q _ H (Ext.refl _ _) ok.jd (.bl _)
theorem opNotIn_D (hK : g.K = X.K) : OpD g (rIn X.K true) kNotIn := fun A δ σ H x y dx dy Q ok rx ry ⟨xs, e, f1, f2, q⟩ => by
  rw [← hK]
  obtain ⟨a, vs, e1, e2, e3⟩ := ry.items e
  refine ⟨a, vs, e1, e2, flatV_of rx f1, flatVs_of e3 f2, ?_⟩
  show Q (.bl (!inV x vs)) H
  rw [inV_of rx f1 e3 f2]
  exact q _ H (Ext.refl _ _) ok.jd (.bl _)
section
variable {a b : Expr} {ta tb : TD} {pos : Pos}
theorem de_in (hK : g.K = X.K) (ha : DE X g a ta) (hb : DE X g b tb) (hm : behindInMarks .In b = false := by rfl) : DE X g (.Compare a [.In] [b] pos) (dOp kIn ta tb) := de_cmp op_in_seq (opIn_D hK) kIn_mono ha hb hm
theorem de_notIn (hK : g.K = X.K) (ha : DE X g a ta) (hb : DE X g b tb) (hm : behindInMarks .NotIn b = false := by rfl) : DE X g (.Compare a [.NotIn] [b] pos) (dOp kNotIn ta tb) := de_cmp op_notIn_seq (opNotIn_D hK) kNotIn_mono ha hb hm
end
end
end DL

set_option Elab.async false
set_option linter.all false
set_option maxRecDepth 100000
set_option maxHeartbeats 4000000
/-! DL4: tests, displays, calls of defs with promises over data. -/
namespace DL
open PySem PySem.Spec PyProof.Rows L2

/-! ### room with the guards told -/
structure GRoom (k : Nat) (A : Around) : Prop where
  r : Room k A
  gd : A.guards = some []
theorem GRoom.mono {j k : Nat} {A : Around} (r : GRoom k A) (h : j ≤ k) : GRoom j A := ⟨r.r.mono h, r.gd⟩
theorem GRoom.deeper {k : Nat} {A : Around} (r : GRoom (k + 1) A) (env : Env) : GRoom k (A.deeper env) := ⟨r.r.deeper env, r.gd⟩
theorem GRoom.make {k : Nat} {A : Around} (r : GRoom (k + 1) A) (C : Addr) (us : List Value) (kw : List (Str × Value)) : GRoom k (A.under (.builtin "type.__call__" ⟨.ref C :: us, kw⟩)) := by
  refine ⟨r.r.make C us kw, ?_⟩
  have e : (Code.builtin "type.__call__" ⟨.ref C :: us, kw⟩).guards = [] := by first | rfl | simp [Code.guards, Code.isGuard, guardIds]
  show pushGuards (Code.builtin "type.__call__" ⟨.ref C :: us, kw⟩).guards A.guards = some []
  rw [e, r.gd]
  rfl

/-! ### a def's promise, where the guards are told -/
structure FnG (P : Program) (w : World) (K : PySem.W.Frag) (mg : Str → Option Value) (base : Heap) (k : Nat) (f : Addr) (fd : FuncData) (ps : List Str) (sp : Sp) : Prop where
  len : ∀ vs H Q E, sp vs H Q E → vs.length = ps.length
  run : ∀ (A : Around) (outer : List Env) (s : Shared) (H : Hp) (args : Args) (us : List Value) (vs : List V) (Q : VK) (E : XK), GRoom k A → Env0 P w K mg base A outer s H → BindsTo s fd args (ps.zip us) → Vals vs us → sp vs H Q E →
    codeAny (model P w) A (.call (.ref f) args) (CR (L2N.CX P w) outer P w H s Q E) s
theorem FnG.mono {P : Program} {w : World} {K : PySem.W.Frag} {mg : Str → Option Value} {base : Heap} {j k : Nat} {f : Addr} {fd : FuncData} {ps : List Str} {sp : Sp} (F : FnG P w K mg base j f fd ps sp) (h : j ≤ k) : FnG P w K mg base k f fd ps sp :=
  ⟨F.len, fun A outer s H args us vs Q E hr => F.run A outer s H args us vs Q E (hr.mono h)⟩
theorem FnG.imp {P : Program} {w : World} {K : PySem.W.Frag} {mg : Str → Option Value} {base : Heap} {k : Nat} {f : Addr} {fd : FuncData} {ps : List Str} {sp sp' : Sp} (F : FnG P w K mg base k f fd ps sp) (h : ∀ vs H Q E, sp' vs H Q E → sp vs H Q E) : FnG P w K mg base k f fd ps sp' :=
  ⟨fun vs H Q E q => F.len vs H Q E (h _ _ _ _ q), fun A outer s H args us vs Q E hr he hb hv hs => F.run A outer s H args us vs Q E hr he hb hv (h _ _ _ _ hs)⟩
theorem FnOk.toG {P : Program} {w : World} {K : PySem.W.Frag} {mg : Str → Option Value} {base : Heap} {k : Nat} {f : Addr} {fd : FuncData} {ps : List Str} {sp : Sp} (F : FnOk P w K mg base (L2N.CX P w) k f fd ps sp) : FnG P w K mg base k f fd ps sp :=
  ⟨F.len, fun A outer s H args us vs Q E hr => F.run A outer s H args us vs Q E hr.r⟩
/-- the body of a def -/
theorem fnG_of {P : Program} {w : World} {K : PySem.W.Frag} {mg : Str → Option Value} {base : Heap} {k : Nat} {x qual : Str} {st : Stmt} {f : Addr} {fd : FuncData} {N ps : List Str} {sp : Sp} (F : Fun K x qual st f fd) (S : FnScope N ps (defScope st))
    (len : ∀ vs H Q E, sp vs H Q E → vs.length = ps.length)
    (hbody : ∀ (cdv : Value) (A : Around) (outer : List Env) (s : Shared) (H : Hp) (vs : List V) (Q : VK) (E : XK), fd.code = cdv → GRoom k (A.deeper (envOfC qual (defScope st) s.heap.objs.size f cdv)) → sp vs H Q E →
      ∃ t, PSs (cxOf (L2N.CX P w) P w K mg base N qual (defScope st) f cdv A outer s H E) (defBody st) t ∧ t { nx := fun _ H' => Q .non H', rt := Q } (L2.start N vs) H) : FnG P w K mg base (k + 1) f fd ps sp := by
  obtain ⟨oc, od, kV, doc, pm, an, cdv, ct, osl, rfl, lk, hcd⟩ := F.ex
  refine ⟨len, fun A outer s H args us vs Q E hr e0 hb r hsp => ?_⟩
  have hl := len _ _ _ _ hsp
  have inK : K.In s.heap := e0.mod.kin.keeps fun b o e => (e0.bs b o e).1
  have nolim : s.heap.NoLimit := e0.mod.nolimit.keeps fun b o e => (e0.bs b o e).1
  refine codeAny_call_function hr.r.depth (inK _ _ lk) rfl S.co S.gen rfl (PySem.W.codeRec_of inK hcd) (hb _ _ _ _ ?_)
  refine wpAny_newFunctionEnv_cells S.kind (fun y hy => ?_) fun env he s1 ic => ?_
  · obtain ⟨n, v⟩ := y
    rcases S.par n (List.of_mem_zip hy).1 with q | q
    · exact .inl q
    · exact .inr ⟨q, PySem.W.cellsFrom_some _ _ _ (.inl q)⟩
  subst he
  refine ⟨nolim.keeps ic.toInCall.keep, codeAny_func ?_⟩
  obtain ⟨t, ht, hq⟩ := hbody cdv A outer s H vs Q E rfl (hr.deeper _) hsp
  have I : Inv (cxOf (L2N.CX P w) P w K mg base N qual (defScope st) f cdv A outer s H E) [] (L2.start N vs) H s1 := inv_start S hr.r.hd e0 hl r ic
  refine wpAny_mono (ht.run [] s1 (L2.start N vs) H _ I hq) (fun fl s' hs => ?_) fun e s' hs => hs
  cases fl with
  | ret u =>
    obtain ⟨v, σ', H', J, rv, q⟩ := hs
    exact ⟨v, H', J.os, J.bare, J.base, J.hok, rv, q⟩
  | next =>
    obtain ⟨σ', H', J, q⟩ := hs
    exact ⟨.non, H', J.os, J.bare, J.base, J.hok, rfl, q⟩
  | brk =>
    obtain ⟨_, _, _, q⟩ := hs
    exact False.elim q
  | cont =>
    obtain ⟨_, _, _, q⟩ := hs
    exact False.elim q
theorem run_fnG {X : Cx} {k : Nat} {f : Addr} {fd : FuncData} {ps : List Str} {sp : Sp} {E : St → XK} {pins : List (Addr × Obj)} {σ : St} {H : Hp} {s : Shared} {Q : VK} {us : List Value} {vs : List V} (F : FnG X.prog X.w X.K X.mg X.base k f fd ps sp) (hr : GRoom k X.A) (hb : Binds X.K fd ps []) (hx : PassesAt (L2N.CX X.prog X.w) X σ (E σ))
    (I : Inv X pins σ H s) (r : Vals vs us) (h : sp vs H Q (E σ)) : wpAny (model X.prog X.w) X.A (call (.ref f) us) (EP X pins σ Q) X.xe s := by
  have hl : us.length = ps.length := by rw [← r.length]; exact F.len _ _ _ _ h
  have b := hb s us I.kIn (by rw [List.append_nil]; exact hl)
  rw [List.append_nil] at b
  refine wpAny_call (codeAny_mono (F.run X.A X.stack s H ⟨us, []⟩ us vs Q (E σ) hr I.env0 b r h) fun res s' hq => ?_)
  cases res with
  | error e => exact hx pins H s e s' I hq
  | ok fl => cases fl with
    | ret u => exact I.after hq
    | _ => exact False.elim hq
theorem pe_callG {X : Cx} {k : Nat} {f : Addr} {fd : FuncData} {ps : List Str} {sp : Sp} {E : St → XK} {x : Str} {q pos : Pos} {e : Expr} {es : List Expr} {t : TA} (F : FnG X.prog X.w X.K X.mg X.base k f fd ps sp) (hr : GRoom k X.A) (hg : Gl X x) (hm : X.mg x = some (.ref f)) (hk : PySem.W.keepIn X.K (.ref f) = true) (hb : Binds X.K fd ps [])
    (hx : ∀ σ, PassesAt (L2N.CX X.prog X.w) X σ (E σ)) (ha : PA X (e :: es) t) (hdb : (x == ("__debug__" : Str)) = false := by decide) (he : starEach (e :: es) X.env = (false, eval e X.env) :: starEach es X.env := by rfl)
    (hpl : (backTo pos (starEach es X.env)).any (·.1) = false := by rfl) : PE X (.Call (.Name x q) (e :: es) [] pos) (tCallS sp E t) := by
  refine ⟨fun pins s σ H Q I h => ?_⟩
  refine wpAny_Call_Name_kw (ld_glob I hg hm ?_ hdb)
  refine PySem.W.callWith_K (h₀ := X.base) I.ok.mod.kin hk (thn (ha.run pos pins s σ H _ I h) fun us s1 ⟨vs, H1, I1, r, z⟩ => ⟨I1.kIn, ?_⟩) he hpl
  exact run_fnG F hr hb (hx σ) I1 r z
theorem pe_callG0 {X : Cx} {k : Nat} {f : Addr} {fd : FuncData} {ps : List Str} {sp : Sp} {E : St → XK} {x : Str} {q pos : Pos} (F : FnG X.prog X.w X.K X.mg X.base k f fd ps sp) (hr : GRoom k X.A) (hg : Gl X x) (hm : X.mg x = some (.ref f)) (hk : PySem.W.keepIn X.K (.ref f) = true) (hb : Binds X.K fd ps [])
    (hx : ∀ σ, PassesAt (L2N.CX X.prog X.w) X σ (E σ)) (hdb : (x == ("__debug__" : Str)) = false := by decide) : PE X (.Call (.Name x q) [] [] pos) (tCallS sp E tNil) := by
  refine ⟨fun pins s σ H Q I h => ?_⟩
  refine wpAny_Call_Name_kw (ld_glob I hg hm ?_ hdb)
  exact PySem.W.callWith_K0 I.kIn hk (run_fnG (us := []) F hr hb (hx σ) I .nil h)

/-! ### exceptions as data, promises over data -/
structure Exc where
  cls : Str
  fs : List (Str × D)
/-- an exception of the class at C (the module's x), its own dict at dx -/
def RepX (c : Cn) (F : Addr → Prop) (H : Hp) (cls : Value) (dx : Option Addr) (x : Exc) : Prop :=
  ∃ C, cls = .ref C ∧ c.mg x.cls = some (.ref C) ∧ ((x.fs = [] ∧ dx = none) ∨ ∃ d fs, dx = some d ∧ H d = some (.xd fs) ∧ ¬ F d ∧ (∀ f y, x.fs.lookup f = some y → ∃ v, fs.lookup f = some v ∧ Rep c F H v y) ∧ x.fs ≠ [])
theorem RepX.ext {c : Cn} {F : Addr → Prop} {H H' : Hp} {cls : Value} {dx : Option Addr} {x : Exc} (r : RepX c F H cls dx x) (e : Ext F H H') : RepX c F H' cls dx x := by
  obtain ⟨C, e1, e2, h⟩ := r
  refine ⟨C, e1, e2, h.imp id fun ⟨d, fs, a1, a2, a3, a4, a5⟩ => ⟨d, fs, a1, e.keep _ _ a2 a3 (fun ps z => nomatch z), a3, fun f y q => ?_, a5⟩⟩
  obtain ⟨v, q1, q2⟩ := a4 f y q
  exact ⟨v, q1, q2.ext e⟩
theorem RepX.anti {c : Cn} {F F' : Addr → Prop} {H : Hp} {cls : Value} {dx : Option Addr} {x : Exc} (r : RepX c F H cls dx x) (h : ∀ b, F' b → F b) : RepX c F' H cls dx x := by
  obtain ⟨C, e1, e2, hh⟩ := r
  refine ⟨C, e1, e2, hh.imp id fun ⟨d, fs, a1, a2, a3, a4, a5⟩ => ⟨d, fs, a1, a2, fun z => a3 (h _ z), fun f y q => ?_, a5⟩⟩
  obtain ⟨v, q1, q2⟩ := a4 f y q
  exact ⟨v, q1, q2.anti fun b hb => .inl (h b hb)⟩

abbrev Spec := List D → (D → Prop) → (Exc → Prop) → Prop
def SMono (S : Spec) : Prop := ∀ ds (K K' : D → Prop) (E E' : Exc → Prop), (∀ d, K d → K' d) → (∀ x, E x → E' x) → S ds K E → S ds K' E'
/-- the promise over data, at the heap -/
def SpOf (K : PySem.W.Frag) (mg : Str → Option Value) (T : List (Addr × Str)) (S : Spec) : Sp := fun vs H Q E => ∃ (pen : Option (Addr × Addr)) (F : Addr → Prop) (ds : List D),
  J ⟨K, mg, pen, T⟩ H ∧ (∀ b, (⟨K, mg, pen, T⟩ : Cn).W b → F b) ∧ (∀ b, F b → ∃ o, H b = some o ∧ ∀ ps, o ≠ .tbl ps) ∧ Reps ⟨K, mg, pen, T⟩ F H vs ds ∧
  S ds (fun d => ∀ v H', J ⟨K, mg, pen, T⟩ H' → Ext (⟨K, mg, pen, T⟩ : Cn).W H H' → Rep ⟨K, mg, pen, T⟩ F H' v d → Q v H')
    (fun x => ∀ cls dx H', J ⟨K, mg, pen, T⟩ H' → Ext (⟨K, mg, pen, T⟩ : Cn).W H H' → RepX ⟨K, mg, pen, T⟩ F H' cls dx x → E cls dx H')
/-- the module's def x keeps the promise S, with room for k calls -/
structure Def (P : Program) (w : World) (K : PySem.W.Frag) (mg : Str → Option Value) (base : Heap) (T : List (Addr × Str)) (k : Nat) (x : Str) (S : Spec) : Prop where
  ex : ∃ f fd ps, mg x = some (.ref f) ∧ PySem.W.keepIn K (.ref f) = true ∧ Binds K fd ps [] ∧ FnG P w K mg base k f fd ps (SpOf K mg T S)
  mono : SMono S

/-- what is wanted of an exception, with the frame -/
def WXof (g : Gh) (EX : List Slot → Exc → Prop) : WX := fun cls dx σ H => ∃ A δ x, Ok g A δ σ H ∧ RepX g.toCn (g.bar A) H cls dx x ∧ EX δ x
/-- where a body stands, in a suite of an error too -/
structure Cb (X : Cx) (g : Gh) : Prop where
  hK : g.K = X.K
  hmg : g.mg = X.mg
  hu : X.A.units + 64 < cLine
  gd : X.A.guards = some []
  nd : X.N.Nodup
/-- where a body stands, no error about -/
structure Cz (X : Cx) (g : Gh) (EX : List Slot → Exc → Prop) (k : Nat) : Prop where
  b : Cb X g
  room : GRoom k X.A
  calm : X.calm = true
  tk : L2N.Takes X (WXof g EX)
/-- .. in a def's own frame -/
structure Cs (X : Cx) (g : Gh) (EX : List Slot → Exc → Prop) (k : Nat) : Prop extends Cz X g EX k where
  pass : PassesOwn (model X.prog X.w) X.A X.env X.xe
  stk : X.stack = X.env :: X.outer
  frm : X.env.frame = some X.env.locals
  ex : X.ex = []
section
variable {X : Cx} {g : Gh} {EX : List Slot → Exc → Prop} {j k : Nat}
theorem Cb.hu1 (z : Cb X g) : X.A.units + 1 < cLine := by have := z.hu; omega
theorem Cz.hK (z : Cz X g EX j) : g.K = X.K := z.b.hK
theorem Cz.hmg (z : Cz X g EX j) : g.mg = X.mg := z.b.hmg
theorem Cz.nd (z : Cz X g EX j) : X.N.Nodup := z.b.nd
theorem spOf_at {S : Spec} (sm : SMono S) (hK : g.K = X.K) (hmg : g.mg = X.mg) {A : List Addr} {δ : List Slot} {σ : St} {H : Hp} {vs : List V} {ds : List D} {Q : VK} (ok : Ok g A δ σ H) (r : Reps g.toCn (g.bar A) H vs ds) (h : S ds (Post g A H Q) (EX δ)) :
    SpOf X.K X.mg g.T S vs H Q (WE (WXof g EX) σ) := by
  have ec : (⟨X.K, X.mg, g.pen, g.T⟩ : Cn) = g.toCn := by rw [← hK, ← hmg]
  refine ⟨g.pen, g.bar A, ds, ?_⟩
  rw [ec]
  refine ⟨ok.J, fun b hb => .inl (ok.fW b (ok.wV b hb)), ok.W0, r, sm _ _ _ _ _ (fun d hd v H' j e rv => hd v H' (e.mono ok.wV) j.jd rv) (fun x hx cls dx H' j e rx => ?_) h⟩
  exact ⟨A, δ, x, ok.step (e.mono ok.wV) j.jd, rx, hx⟩

/-! ### arguments, displays -/
def daNil : TDA := fun _ K => K []
def daCons (t : TD) (u : TDA) : TDA := fun δ K => t δ fun d => u δ fun ds => K (d :: ds)
theorem da_nil : DA X g [] daNil := ⟨PA.weak pa_nil fun σ H Q ⟨A, δ, ok, h⟩ => h [] H (Ext.refl _ _) ok.jd .nil, fun _ _ _ hk h => hk _ h⟩
theorem da_cons {e : Expr} {es : List Expr} {t : TD} {u : TDA} (ha : DE X g e t) (hr : DA X g es u) (hs : starEach (e :: es) X.env = (false, eval e X.env) :: starEach es X.env := by rfl) : DA X g (e :: es) (daCons t u) := by
  refine ⟨PA.weak (pa_cons ha.pe hr.pa hs) fun σ H Q h => ?_, fun δ K K' hk h => ha.mono _ _ _ (fun d hd => hr.mono _ _ _ (fun ds q => hk _ q) hd) h⟩
  obtain ⟨A, δ, ok, h⟩ := h
  refine ⟨A, δ, ok, ha.mono _ _ _ (fun d hd v H1 e1 j1 r1 => ?_) h⟩
  have ok1 := ok.step e1 j1
  refine ⟨A, δ, ok1, hr.mono _ _ _ (fun ds hds vs H2 e2 j2 r2 => ?_) hd⟩
  exact hds _ H2 (e1.trans e2) j2 (.cons (r1.ext (e2.mono fun b hb => .inl (ok.fW b hb))) r2)
def dTup (u : TDA) : TD := fun δ K => u δ fun ds => ds.length ≤ sizeLine ∧ K (.tup ds)
def dLst (u : TDA) : TD := fun δ K => u δ fun ds => ds.length ≤ sizeLine ∧ K (.lst ds)
theorem de_tup {es : List Expr} {u : TDA} {x1} {pos : Pos} (h : DA X g es u) : DE X g (.Tuple es x1 pos) (dTup u) := by
  refine ⟨PE.weak (pe_tup h.pa) fun σ H Q q => ?_, fun δ K K' hk q => h.mono _ _ _ (fun ds z => ⟨z.1, hk _ z.2⟩) q⟩
  obtain ⟨A, δ, ok, q⟩ := q
  refine ⟨A, δ, ok, h.mono _ _ _ (fun ds z vs H1 e1 j1 r1 => ⟨by rw [r1.length]; exact z.1, fun p hp => ?_⟩) q⟩
  have ok1 := ok.step e1 j1
  exact z.2 _ _ (e1.trans (Ext.new hp)) (j1.new hp) (.tup (.of upd_same) (ok1.fresh hp) (r1.ext (Ext.new hp)))
theorem de_lst {es : List Expr} {u : TDA} {pos : Pos} (h : DA X g es u) : DE X g (.List es pos) (dLst u) := by
  refine ⟨PE.weak (pe_lst h.pa) fun σ H Q q => ?_, fun δ K K' hk q => h.mono _ _ _ (fun ds z => ⟨z.1, hk _ z.2⟩) q⟩
  obtain ⟨A, δ, ok, q⟩ := q
  refine ⟨A, δ, ok, h.mono _ _ _ (fun ds z vs H1 e1 j1 r1 => ⟨by rw [r1.length]; exact z.1, fun p hp => ?_⟩) q⟩
  have ok1 := ok.step e1 j1
  exact z.2 _ _ (e1.trans (Ext.new hp)) (j1.new hp) (.lst upd_same (ok1.fresh hp) (r1.ext (Ext.new hp)))

/-! ### calls of defs -/
def dCall (S : Spec) (EX : List Slot → Exc → Prop) (u : TDA) : TD := fun δ K => u δ fun ds => S ds K (EX δ)
theorem de_call {x : Str} {S : Spec} {e : Expr} {es : List Expr} {u : TDA} {q pos : Pos} (z : Cz X g EX j) (d : Def X.prog X.w X.K X.mg X.base g.T k x S) (hk : k ≤ j) (hg : Gl X x) (ha : DA X g (e :: es) u)
    (hdb : (x == ("__debug__" : Str)) = false := by decide) (he : starEach (e :: es) X.env = (false, eval e X.env) :: starEach es X.env := by rfl) (hpl : (backTo pos (starEach es X.env)).any (·.1) = false := by rfl) : DE X g (.Call (.Name x q) (e :: es) [] pos) (dCall S EX u) := by
  obtain ⟨f, fd, ps, hm, hkp, hb, F⟩ := d.ex
  refine ⟨PE.weak (pe_callG (E := WE (WXof g EX)) F (z.room.mono hk) hg hm hkp hb (fun σ => L2N.passAt z.tk σ) ha.pa hdb he hpl) fun σ H Q h => ?_, fun δ K K' hk' h => ha.mono _ _ _ (fun ds hd => d.mono _ _ _ _ _ hk' (fun _ h => h) hd) h⟩
  obtain ⟨A, δ, ok, h⟩ := h
  refine ⟨A, δ, ok, ha.mono _ _ _ (fun ds hd vs H1 e1 j1 r1 => ?_) h⟩
  exact spOf_at d.mono z.hK z.hmg (ok.step e1 j1) r1 (d.mono _ _ _ _ _ (fun d hd => Post.step e1 hd) (fun _ h => h) hd)
theorem de_call0 {x : Str} {S : Spec} {q pos : Pos} (z : Cz X g EX j) (d : Def X.prog X.w X.K X.mg X.base g.T k x S) (hk : k ≤ j) (hg : Gl X x) (hdb : (x == ("__debug__" : Str)) = false := by decide) : DE X g (.Call (.Name x q) [] [] pos) (dCall S EX daNil) := by
  obtain ⟨f, fd, ps, hm, hkp, hb, F⟩ := d.ex
  refine ⟨PE.weak (pe_callG0 (E := WE (WXof g EX)) F (z.room.mono hk) hg hm hkp hb (fun σ => L2N.passAt z.tk σ) hdb) fun σ H Q h => ?_, fun δ K K' hk' h => d.mono _ _ _ _ _ hk' (fun _ h => h) h⟩
  obtain ⟨A, δ, ok, h⟩ := h
  exact spOf_at d.mono z.hK z.hmg ok .nil h

/-! ### tests -/
variable {a b : Expr} {rest : List Expr} {ta tb : TD} {pos : Pos} {tA tB : TDT}
def dtAnd (t u : TDT) : TDT := fun δ K => t δ fun c => if c = true then u δ K else K false
def dtOr (t u : TDT) : TDT := fun δ K => t δ fun c => if c = true then K true else u δ K
def dtNot (t : TDT) : TDT := fun δ K => t δ fun c => K (!c)
structure DW (X : Cx) (g : Gh) (e : Expr) (t : TDT) : Prop where
  pw : PW X e (LiftT g t)
  mono : ∀ δ (K K' : Bool → Prop), (∀ d, K d → K' d) → t δ K → t δ K'
theorem PW.weak {e : Expr} {t t' : TT} (h : PW X e t) (w : ∀ σ H Q, t' σ H Q → t σ H Q) : PW X e t' := ⟨fun wh pins s σ H Q I q => h.run wh pins s σ H Q I (w σ H Q q)⟩
theorem DW.dt {e : Expr} (h : DW X g e tA) : DT X g e tA := ⟨h.pw.pt, h.mono⟩
theorem dw_and1 (h : DT X g a tA) : DW X g (.BoolOp .And [a] pos) tA := ⟨pw_and1 h.pt, h.mono⟩
theorem dw_or1 (h : DT X g a tA) : DW X g (.BoolOp .Or [a] pos) tA := ⟨pw_or1 h.pt, h.mono⟩
theorem andor_mono (ha : DT X g a tA) {e : Expr} (hb : DW X g e tB) : (∀ δ (K K' : Bool → Prop), (∀ d, K d → K' d) → dtAnd tA tB δ K → dtAnd tA tB δ K') ∧ ∀ δ (K K' : Bool → Prop), (∀ d, K d → K' d) → dtOr tA tB δ K → dtOr tA tB δ K' := by
  refine ⟨fun δ K K' hk h => ha.mono _ _ _ (fun c hc => ?_) h, fun δ K K' hk h => ha.mono _ _ _ (fun c hc => ?_) h⟩
  · cases c with
    | true => rw [if_pos rfl] at hc ⊢; exact hb.mono _ _ _ hk hc
    | false => exact hk _ hc
  · cases c with
    | true => exact hk _ hc
    | false => exact hb.mono _ _ _ hk hc
theorem dw_and (ha : DT X g a tA) (hb : DW X g (.BoolOp .And (b :: rest) pos) tB) : DW X g (.BoolOp .And (a :: b :: rest) pos) (dtAnd tA tB) := by
  refine ⟨PW.weak (pw_and ha.pt hb.pw) fun σ H Q h => ?_, (andor_mono ha hb).1⟩
  obtain ⟨A, δ, ok, h⟩ := h
  refine ⟨A, δ, ok, ha.mono _ _ _ (fun c hc H1 e1 j1 => ?_) h⟩
  cases c with
  | true => exact ⟨A, δ, ok.step e1 j1, hb.mono _ _ _ (fun c hc => PostT.step e1 hc) hc⟩
  | false => exact hc H1 e1 j1
theorem dw_or (ha : DT X g a tA) (hb : DW X g (.BoolOp .Or (b :: rest) pos) tB) : DW X g (.BoolOp .Or (a :: b :: rest) pos) (dtOr tA tB) := by
  refine ⟨PW.weak (pw_or ha.pt hb.pw) fun σ H Q h => ?_, (andor_mono ha hb).2⟩
  obtain ⟨A, δ, ok, h⟩ := h
  refine ⟨A, δ, ok, ha.mono _ _ _ (fun c hc H1 e1 j1 => ?_) h⟩
  cases c with
  | true => exact hc H1 e1 j1
  | false => exact ⟨A, δ, ok.step e1 j1, hb.mono _ _ _ (fun c hc => PostT.step e1 hc) hc⟩
theorem dt_not (ha : DT X g a tA) : DT X g (.UnaryOp .Not a pos) (dtNot tA) := by
  refine ⟨PT.weak (pt_not ha.pt) fun σ H Q h => ?_, fun δ K K' hk h => ha.mono _ _ _ (fun c hc => hk _ hc) h⟩
  obtain ⟨A, δ, ok, h⟩ := h
  exact ⟨A, δ, ok, ha.mono _ _ _ (fun c hc H1 e1 j1 => hc H1 e1 j1) h⟩
/-- truth of data -/
def truD : D → Option Bool
  | .non => some false
  | .bl b => some b
  | .int i => some (i != 0)
  | .str s => if s.length ≤ sizeLine then some ((s.length : Int) != 0) else none
  | .tup xs => some (!xs.isEmpty)
  | .lst xs => some (!xs.isEmpty)
  | .dct xs => some (!xs.isEmpty)
  | _ => none
def Kt (K : Bool → Prop) (d : D) : Prop := ∃ b, truD d = some b ∧ K b
def dTru (t : TD) : TDT := fun δ K => t δ (Kt K)
theorem isEmpty_reps {c : Cn} {F : Addr → Prop} {H : Hp} {vs : List V} {ds : List D} (r : Reps c F H vs ds) : vs.isEmpty = ds.isEmpty := by cases r <;> rfl
theorem truV_of {c : Cn} {F : Addr → Prop} {H : Hp} {v : V} {d : D} {b : Bool} (r : Rep c F H v d) (e : truD d = some b) : TruV c.K v H b := by
  cases d with
  | non => cases r; exact (Option.some.inj e).symm
  | bl c => cases r; exact (Option.some.inj e).symm
  | int i => cases r; exact (Option.some.inj e).symm
  | str s =>
    cases r
    have e : (if s.length ≤ sizeLine then some ((s.length : Int) != 0) else none) = some b := e
    by_cases h : s.length ≤ sizeLine
    · rw [if_pos h] at e
      exact ⟨h, (Option.some.inj e).symm⟩
    · rw [if_neg h] at e
      cases e
  | tup xs =>
    obtain ⟨a, vs, e1, e2, e3⟩ := r.isTup
    subst e1
    exact .inr (.inl ⟨vs, e2, by rw [isEmpty_reps e3]; exact (Option.some.inj e).symm⟩)
  | lst xs =>
    obtain ⟨a, vs, e1, e2, e3⟩ := r.isLst
    subst e1
    exact .inl ⟨vs, .of e2, by rw [isEmpty_reps e3]; exact (Option.some.inj e).symm⟩
  | dct xs =>
    cases r with
    | dct q n rs =>
      refine .inr (.inr ⟨_, q, ?_⟩)
      have e2 := (Option.some.inj e).symm
      rw [e2]
      cases rs <;> rfl
  | _ => cases e
theorem dt_tru (hK : g.K = X.K) (ha : DE X g a ta) (he : ∀ whole, isTrue a X.env whole = (do let v ← whole; standAt a.pos; holding [v] (truthy v)) := by intro _; rfl) : DT X g a (dTru ta) := by
  refine ⟨PT.weak (pt_truth ha.pe he) fun σ H Q h => ?_, fun δ K K' hk h => ha.mono _ _ _ (fun c ⟨b, e, q⟩ => ⟨b, e, hk _ q⟩) h⟩
  obtain ⟨A, δ, ok, h⟩ := h
  refine ⟨A, δ, ok, ha.mono _ _ _ (fun d ⟨b, e, q⟩ v H1 e1 j1 r1 => ?_) h⟩
  rw [← hK]
  exact ⟨b, truV_of r1 e, q H1 e1 j1⟩
/-- .. as values, of bools -/
def dAnd (t u : TD) : TD := fun δ K => t δ (Kb fun c => if c = true then u δ K else K (.bl false))
def dOr (t u : TD) : TD := fun δ K => t δ (Kb fun c => if c = true then K (.bl true) else u δ K)
def dNot (t : TDT) : TD := fun δ K => t δ fun c => K (.bl (!c))
theorem Kb_mono {K K' : Bool → Prop} (h : ∀ b, K b → K' b) : ∀ d, Kb K d → Kb K' d := fun d q => by
  cases d <;> first | exact h _ q | exact (show False from q).elim
theorem de_one {op} (h : DE X g a ta) : DE X g (.BoolOp op [a] pos) ta := ⟨pe_one h.pe, h.mono⟩
theorem de_and (ha : DE X g a ta) (hb : DE X g (.BoolOp .And (b :: rest) pos) tb) : DE X g (.BoolOp .And (a :: b :: rest) pos) (dAnd ta tb) := by
  refine ⟨PE.weak (pe_and ha.pe hb.pe) fun σ H Q h => ?_, fun δ K K' hk h => ha.mono _ _ _ (Kb_mono fun c hc => ?_) h⟩
  · obtain ⟨A, δ, ok, h⟩ := h
    refine ⟨A, δ, ok, ha.mono _ _ _ (fun d hd v H1 e1 j1 r1 => ?_) h⟩
    cases r1 with
    | bl c =>
      refine ⟨c, rfl, ?_⟩
      cases c with
      | true => exact ⟨A, δ, ok.step e1 j1, hb.mono _ _ _ (fun c hc => Post.step e1 hc) hd⟩
      | false => exact (show Post g A H Q (.bl false) from hd) _ H1 e1 j1 (.bl false)
    | _ => exact (show False from hd).elim
  · cases c with
    | true => exact hb.mono _ _ _ hk hc
    | false => exact hk _ hc
theorem de_or (ha : DE X g a ta) (hb : DE X g (.BoolOp .Or (b :: rest) pos) tb) : DE X g (.BoolOp .Or (a :: b :: rest) pos) (dOr ta tb) := by
  refine ⟨PE.weak (pe_or ha.pe hb.pe) fun σ H Q h => ?_, fun δ K K' hk h => ha.mono _ _ _ (Kb_mono fun c hc => ?_) h⟩
  · obtain ⟨A, δ, ok, h⟩ := h
    refine ⟨A, δ, ok, ha.mono _ _ _ (fun d hd v H1 e1 j1 r1 => ?_) h⟩
    cases r1 with
    | bl c =>
      refine ⟨c, rfl, ?_⟩
      cases c with
      | false => exact ⟨A, δ, ok.step e1 j1, hb.mono _ _ _ (fun c hc => Post.step e1 hc) hd⟩
      | true => exact (show Post g A H Q (.bl true) from hd) _ H1 e1 j1 (.bl true)
    | _ => exact (show False from hd).elim
  · cases c with
    | false => exact hb.mono _ _ _ hk hc
    | true => exact hk _ hc
def dNotV (t : TD) : TD := fun δ K => t δ (Kb fun c => K (.bl (!c)))
theorem de_not (ha : DE X g a ta) : DE X g (.UnaryOp .Not a pos) (dNotV ta) := by
  refine ⟨PE.weak (pe_not ha.pe) fun σ H Q h => ?_, fun δ K K' hk h => ha.mono _ _ _ (Kb_mono fun c hc => hk _ hc) h⟩
  obtain ⟨A, δ, ok, h⟩ := h
  refine ⟨A, δ, ok, ha.mono _ _ _ (fun d hd v H1 e1 j1 r1 => ?_) h⟩
  cases r1 with
  | bl c => exact ⟨c, rfl, (show Post g A H Q (.bl (!c)) from hd) _ H1 e1 j1 (.bl _)⟩
  | _ => exact (show False from hd).elim
def dIf (t : TDT) (u v : TD) : TD := fun δ K => t δ fun c => if c = true then u δ K else v δ K
theorem de_ifExp {c : Expr} (hc : DT X g c tA) (ha : DE X g a ta) (hb : DE X g b tb) : DE X g (.IfExp c a b pos) (dIf tA ta tb) := by
  refine ⟨PE.weak (pe_ifExp hc.pt ha.pe hb.pe) fun σ H Q h => ?_, fun δ K K' hk h => hc.mono _ _ _ (fun c hc => ?_) h⟩
  · obtain ⟨A, δ, ok, h⟩ := h
    refine ⟨A, δ, ok, hc.mono _ _ _ (fun d hd H1 e1 j1 => ?_) h⟩
    cases d with
    | true => exact ⟨A, δ, ok.step e1 j1, ha.mono _ _ _ (fun c hc => Post.step e1 hc) hd⟩
    | false => exact ⟨A, δ, ok.step e1 j1, hb.mono _ _ _ (fun c hc => Post.step e1 hc) hd⟩
  · cases c with
    | true => exact ha.mono _ _ _ hk hc
    | false => exact hb.mono _ _ _ hk hc
/-- a comparison, as a value and as a test -/
structure DC (X : Cx) (g : Gh) (op : CmpOp) (a b : Expr) (t : TD) : Prop where
  de : ∀ pos, DE X g (.Compare a [op] [b] pos) t
  dt : ∀ pos, DT X g (.Compare a [op] [b] pos) (dTest t)
theorem dc_of {op : CmpOp} {r : R2} {k : D → D → (D → Prop) → Prop} (ho : OpR X (compareOp op) r) (hk : OpD g r k) (km : Mono2 k) (ha : DE X g a ta) (hb : DE X g b tb) (hm : behindInMarks op b = false) : DC X g op a b (dOp k ta tb) :=
  ⟨fun _ => de_cmp ho hk km ha hb hm, fun _ => dt_cmp ho hk km ha hb hm⟩
theorem dc_eq (z : Cb X g) (ha : DE X g a ta) (hb : DE X g b tb) : DC X g .Eq a b (dOp kEq ta tb) := dc_of (op_eqD z.hu) (opEq_D z.hK) kEq_mono ha hb (nomark _)
theorem dc_ne (z : Cb X g) (ha : DE X g a ta) (hb : DE X g b tb) : DC X g .NotEq a b (dOp kNe ta tb) := dc_of (op_neD z.hu) (opNe_D z.hK) kNe_mono ha hb (nomark _)
theorem dc_lt (ha : DE X g a ta) (hb : DE X g b tb) : DC X g .Lt a b (dOp kLt ta tb) := dc_of op_lt opB0_D kI0_mono ha hb (nomark _)
theorem dc_le (ha : DE X g a ta) (hb : DE X g b tb) : DC X g .LtE a b (dOp kLe ta tb) := dc_of op_le opB0_D kI0_mono ha hb (nomark _)
theorem dc_gt (ha : DE X g a ta) (hb : DE X g b tb) : DC X g .Gt a b (dOp kGt ta tb) := dc_of op_gt opB0_D kI0_mono ha hb (nomark _)
theorem dc_ge (ha : DE X g a ta) (hb : DE X g b tb) : DC X g .GtE a b (dOp kGe ta tb) := dc_of op_ge opB0_D kI0_mono ha hb (nomark _)
theorem dc_is (ha : DE X g a ta) (hb : DE X g b tb) : DC X g .Is a b (dOp kIs ta tb) := dc_of op_isV opIs_D kIs_mono ha hb (nomark _)
theorem dc_isNot (ha : DE X g a ta) (hb : DE X g b tb) : DC X g .IsNot a b (dOp kIsN ta tb) := dc_of op_isNotV opIsN_D kIsN_mono ha hb (nomark _)
theorem dc_in (z : Cb X g) (ha : DE X g a ta) (hb : DE X g b tb) (hm : behindInMarks .In b = false := by rfl) : DC X g .In a b (dOp kIn ta tb) := dc_of op_in_seq (opIn_D z.hK) kIn_mono ha hb hm
theorem dc_notIn (z : Cb X g) (ha : DE X g a ta) (hb : DE X g b tb) (hm : behindInMarks .NotIn b = false := by rfl) : DC X g .NotIn a b (dOp kNotIn ta tb) := dc_of op_notIn_seq (opNotIn_D z.hK) kNotIn_mono ha hb hm
end
end DL

set_option Elab.async false
set_option linter.all false
set_option maxRecDepth 100000
set_option maxHeartbeats 4000000
/-! DL5: statements over data. -/
namespace DL
open PySem PySem.Spec PyProof.Rows L2

section
variable {g : Gh} {A A' : List Addr} {δ : List Slot} {σ : St} {H H' : Hp}
theorem Slots.anti {c : Cn} {Fb Fb' : Addr → Prop} (h : ∀ b, Fb' b → Fb b ∨ vac H b) : ∀ {As : List Addr} {δ : List Slot} {σ : St}, Slots c Fb H As δ σ → Slots c Fb' H As δ σ := by
  intro As δ σ s
  induction s with
  | nil => exact .nil
  | un _ ih => exact .un ih
  | val r _ ih => exact .val (r.anti h) ih
  | own q r _ ih => exact .own q (r.anti h) ih
  | ownD q r _ ih => exact .ownD q (r.anti h) ih
theorem Slots.len {c : Cn} {Fb : Addr → Prop} {As : List Addr} {δ : List Slot} {σ : St} (s : Slots c Fb H As δ σ) : δ.length = σ.length := by
  induction s with
  | nil => rfl
  | _ => simp_all
/-- one slot is stored: by one of An (none or one address) -/
theorem Slots.put {c : Cn} {Fb : Addr → Prop} {As An : List Addr} {x : Slot} {o : Option V} (hx : ∀ (B : List Addr) (δ' : List Slot) (σ' : St), Slots c Fb H B δ' σ' → Slots c Fb H (An ++ B) (x :: δ') (o :: σ')) (hn : An.Nodup) {δ : List Slot} {σ : St} (s : Slots c Fb H As δ σ) :
    ∀ i, (∀ b ∈ An, b ∉ As) → As.Nodup → ∃ B, B.Nodup ∧ (∀ b ∈ B, b ∈ An ∨ b ∈ As) ∧ Slots c Fb H B (δ.set i x) (σ.set i o) := by
  induction s with
  | nil => intro i _ _; exact ⟨[], List.nodup_nil, (fun b hb => by cases hb), Slots.nil⟩
  | @un A δ σ o s ih =>
    intro i hd hN
    cases i with
    | zero =>
      refine ⟨An ++ A, ?_, fun b hb => List.mem_append.mp hb, hx _ _ _ s⟩
      exact List.nodup_append.mpr ⟨hn, hN, fun a ha b hb e => hd a ha (e ▸ hb)⟩
    | succ i =>
      obtain ⟨B, h1, h2, h3⟩ := ih i hd hN
      exact ⟨B, h1, h2, .un h3⟩
  | @val A δ σ v d r s ih =>
    intro i hd hN
    cases i with
    | zero =>
      refine ⟨An ++ A, ?_, fun b hb => List.mem_append.mp hb, hx _ _ _ s⟩
      exact List.nodup_append.mpr ⟨hn, hN, fun a ha b hb e => hd a ha (e ▸ hb)⟩
    | succ i =>
      obtain ⟨B, h1, h2, h3⟩ := ih i hd hN
      exact ⟨B, h1, h2, .val r h3⟩
  | @own A δ σ a vs ds q r s ih =>
    intro i hd hN
    rw [List.nodup_cons] at hN
    have hd' : ∀ b ∈ An, b ∉ A := fun b hb hA => hd b hb (List.mem_cons_of_mem _ hA)
    cases i with
    | zero =>
      refine ⟨An ++ A, ?_, fun b hb => (List.mem_append.mp hb).imp id (List.mem_cons_of_mem _), hx _ _ _ s⟩
      exact List.nodup_append.mpr ⟨hn, hN.2, fun a ha b hb e => hd' a ha (e ▸ hb)⟩
    | succ i =>
      obtain ⟨B, h1, h2, h3⟩ := ih i hd' hN.2
      refine ⟨a :: B, List.nodup_cons.mpr ⟨fun hb => ?_, h1⟩, fun b hb => ?_, .own q r h3⟩
      · rcases h2 a hb with z | z
        · exact hd a z List.mem_cons_self
        · exact hN.1 z
      · rcases List.mem_cons.mp hb with e | hb
        · exact .inr (by rw [e]; exact List.mem_cons_self)
        · exact (h2 b hb).imp id (List.mem_cons_of_mem _)
  | @ownD A δ σ a vs ds q r s ih =>
    intro i hd hN
    rw [List.nodup_cons] at hN
    have hd' : ∀ b ∈ An, b ∉ A := fun b hb hA => hd b hb (List.mem_cons_of_mem _ hA)
    cases i with
    | zero =>
      refine ⟨An ++ A, ?_, fun b hb => (List.mem_append.mp hb).imp id (List.mem_cons_of_mem _), hx _ _ _ s⟩
      exact List.nodup_append.mpr ⟨hn, hN.2, fun a ha b hb e => hd' a ha (e ▸ hb)⟩
    | succ i =>
      obtain ⟨B, h1, h2, h3⟩ := ih i hd' hN.2
      refine ⟨a :: B, List.nodup_cons.mpr ⟨fun hb => ?_, h1⟩, fun b hb => ?_, .ownD q r h3⟩
      · rcases h2 a hb with z | z
        · exact hd a z List.mem_cons_self
        · exact hN.1 z
      · rcases List.mem_cons.mp hb with e | hb
        · exact .inr (by rw [e]; exact List.mem_cons_self)
        · exact (h2 b hb).imp id (List.mem_cons_of_mem _)
theorem Ok.setVal (ok : Ok g A δ σ H) {v : V} {d : D} (r : Rep g.toCn (g.bar A) H v d) (i : Nat) : Ok g A (δ.set i (.val d)) (σ.set i (some v)) H := by
  obtain ⟨As, nd, sub, sl⟩ := ok.sl
  obtain ⟨B, h1, h2, h3⟩ := Slots.put (An := []) (x := .val d) (o := some v) (fun B δ' σ' s => .val r s) List.nodup_nil sl i (fun b hb => by cases hb) nd
  exact ⟨ok.cl, ok.jd, ok.wV, ok.ext, ok.fW, ok.fd, ok.new, ok.tk, B, h1, fun b hb => (h2 b hb).elim (fun z => by cases z) (sub b), h3⟩
theorem Ok.setUn (ok : Ok g A δ σ H) (o : Option V) (i : Nat) : Ok g A (δ.set i .un) (σ.set i o) H := by
  obtain ⟨As, nd, sub, sl⟩ := ok.sl
  obtain ⟨B, h1, h2, h3⟩ := Slots.put (An := []) (x := .un) (o := o) (fun B δ' σ' s => .un s) List.nodup_nil sl i (fun b hb => by cases hb) nd
  exact ⟨ok.cl, ok.jd, ok.wV, ok.ext, ok.fW, ok.fd, ok.new, ok.tk, B, h1, fun b hb => (h2 b hb).elim (fun z => by cases z) (sub b), h3⟩
/-- a new list (dict) of the frame's own -/
theorem Ok.bare (ok : Ok g A δ σ H) {H' : Hp} (e : Ext g.V H H') (j : JD g.toCn H') {p : Addr} {o : HO} (hp : vac H p) (hq : H' p = some o) (t : ∀ ps, o ≠ .tbl ps) : Ok g (p :: A) δ σ H' := by
  obtain ⟨As, nd, sub, sl⟩ := ok.sl
  have nW : ∀ b ∈ As, ¬ g.V b := fun b hb => ok.noW b (sub b hb)
  refine ⟨ok.cl, j, ok.wV, ok.ext.trans e, ok.fW, ok.fd, fun b hb => ?_, fun b hb => ?_, As, nd, fun b hb => List.mem_cons_of_mem _ (sub b hb), Slots.ext (W := g.V) (fun b h => .inl (ok.fW b h)) e nW (Slots.anti (fun b hb => ?_) sl)⟩
  · rcases List.mem_cons.mp hb with z | z
    · rw [z]; exact ok.ext.dom p hp
    · exact ok.new b z
  · rcases List.mem_cons.mp hb with z | z
    · rw [z]; exact ⟨o, hq, t⟩
    · obtain ⟨o', q, t'⟩ := ok.tk b z
      exact ⟨o', e.keep b o' q (ok.noW b z) t', t'⟩
  · rcases hb with z | z
    · exact .inl (.inl z)
    · rcases List.mem_cons.mp z with z | z
      · rw [z]; exact .inr hp
      · exact .inl (.inr z)
theorem Ok.setOwn (ok : Ok g A δ σ H) {H' : Hp} (e : Ext g.V H H') (j : JD g.toCn H') {p : Addr} {vs : List V} {ds : List D} (hp : vac H p) (hq : H' p = some (.lst vs)) (r : Reps g.toCn (g.bar (p :: A)) H' vs ds) (i : Nat) :
    Ok g (p :: A) (δ.set i (.own ds)) (σ.set i (some (.ref p))) H' := by
  have okb := ok.bare e j hp hq fun ps z => nomatch z
  obtain ⟨As0, nd0, sub0, sl0⟩ := ok.sl
  have nW : ∀ b ∈ As0, ¬ g.V b := fun b hb => ok.noW b (sub0 b hb)
  have sl : Slots g.toCn (g.bar (p :: A)) H' As0 δ σ := Slots.ext (W := g.V) (fun b h => .inl (ok.fW b h)) e nW (Slots.anti (fun b hb => by
    rcases hb with z | z
    · exact .inl (.inl z)
    · rcases List.mem_cons.mp z with z | z
      · rw [z]; exact .inr hp
      · exact .inl (.inr z)) sl0)
  have np : p ∉ As0 := fun z => by
    obtain ⟨o, q, t⟩ := ok.tk p (sub0 p z)
    exact hp.no q t
  obtain ⟨B, h1, h2, h3⟩ := Slots.put (An := [p]) (x := .own ds) (o := some (.ref p)) (fun B δ' σ' s => .own hq r s) (by simp) sl i (fun b hb => by rw [List.mem_singleton.mp hb]; exact np) nd0
  exact ⟨okb.cl, okb.jd, okb.wV, okb.ext, okb.fW, okb.fd, okb.new, okb.tk, B, h1, fun b hb => (h2 b hb).elim (fun z => by rw [List.mem_singleton.mp z]; exact List.mem_cons_self) (fun z => List.mem_cons_of_mem _ (sub0 b z)), h3⟩
theorem Ok.setOwnD (ok : Ok g A δ σ H) {H' : Hp} (e : Ext g.V H H') (j : JD g.toCn H') {p : Addr} {vs : List (Key × V)} {ds : List (Key × D)} (hp : vac H p) (hq : H' p = some (.dK vs)) (r : RepK g.toCn (g.bar (p :: A)) H' vs ds) (i : Nat) :
    Ok g (p :: A) (δ.set i (.ownD ds)) (σ.set i (some (.ref p))) H' := by
  have okb := ok.bare e j hp hq fun ps z => nomatch z
  obtain ⟨As0, nd0, sub0, sl0⟩ := ok.sl
  have nW : ∀ b ∈ As0, ¬ g.V b := fun b hb => ok.noW b (sub0 b hb)
  have sl : Slots g.toCn (g.bar (p :: A)) H' As0 δ σ := Slots.ext (W := g.V) (fun b h => .inl (ok.fW b h)) e nW (Slots.anti (fun b hb => by
    rcases hb with z | z
    · exact .inl (.inl z)
    · rcases List.mem_cons.mp z with z | z
      · rw [z]; exact .inr hp
      · exact .inl (.inr z)) sl0)
  have np : p ∉ As0 := fun z => by
    obtain ⟨o, q, t⟩ := ok.tk p (sub0 p z)
    exact hp.no q t
  obtain ⟨B, h1, h2, h3⟩ := Slots.put (An := [p]) (x := .ownD ds) (o := some (.ref p)) (fun B δ' σ' s => .ownD hq r s) (by simp) sl i (fun b hb => by rw [List.mem_singleton.mp hb]; exact np) nd0
  exact ⟨okb.cl, okb.jd, okb.wV, okb.ext, okb.fW, okb.fd, okb.new, okb.tk, B, h1, fun b hb => (h2 b hb).elim (fun z => by rw [List.mem_singleton.mp z]; exact List.mem_cons_self) (fun z => List.mem_cons_of_mem _ (sub0 b z)), h3⟩
theorem ext_upd {F : Addr → Prop} {a : Addr} {o : HO} (ho : ∀ ps, o ≠ .tbl ps) (hF : F a) : Ext F H (upd H a o) := ⟨fun b u q n _ => by
  have ne : b ≠ a := by
    intro z; subst z; exact n hF
  rw [upd_ne ne]; exact q, fun b q => by
  intro u e
  by_cases z : b = a
  · rw [z] at q; exact (q.no upd_same ho).elim
  · exact q u (by rw [upd_ne z]; exact e)⟩
theorem Slots.turn {c : Cn} {Fb : Addr → Prop} {a : Addr} {o : HO} (ho : ∀ ps, o ≠ .tbl ps) : ∀ {As : List Addr} {δ : List Slot} {σ : St}, Fb a → Slots c Fb H As δ σ → a ∉ As → Slots c Fb (upd H a o) As δ σ := by
  intro As δ σ hF s hn
  have e : Ext Fb H (upd H a o) := ext_upd ho hF
  induction s with
  | nil => exact .nil
  | un _ ih => exact .un (ih hn)
  | val r _ ih => exact .val (r.ext e) (ih hn)
  | @own _ _ _ a' _ _ q r _ ih =>
    have ne : a' ≠ a := by
      intro w; subst w; exact hn List.mem_cons_self
    exact .own (by rw [upd_ne ne]; exact q) (r.ext e) (ih (List.not_mem_of_not_mem_cons hn))
  | @ownD _ _ _ a' _ _ q r _ ih =>
    have ne : a' ≠ a := by
      intro w; subst w; exact hn List.mem_cons_self
    exact .ownD (by rw [upd_ne ne]; exact q) (r.ext e) (ih (List.not_mem_of_not_mem_cons hn))
theorem reps_turn {c : Cn} {Fb : Addr → Prop} {a : Addr} {o u : HO} {vs : List V} {ds : List D} (ho : ∀ ps, o ≠ .tbl ps) (hF : Fb a) (h : H a = some u) (r : Reps c Fb H vs ds) : Reps c Fb (upd H a o) vs ds := r.ext (ext_upd ho hF)
/-- its content is changed -/
theorem Slots.turnAt {c : Cn} {Fb : Addr → Prop} {x : Slot} {o : HO} (ho : ∀ ps, o ≠ .tbl ps) : ∀ {As : List Addr} {δ : List Slot} {σ : St}, Slots c Fb H As δ σ → (∀ b ∈ As, Fb b) → As.Nodup → ∀ {i : Nat} {a : Addr}, σ[i]? = some (some (.ref a)) → (∃ y, δ[i]? = some y ∧ ((∃ ds, y = .own ds) ∨ ∃ ds, y = .ownD ds)) →
    (∀ (B : List Addr) (δ' : List Slot) (σ' : St), Slots c Fb (upd H a o) B δ' σ' → Slots c Fb (upd H a o) (a :: B) (x :: δ') (some (.ref a) :: σ')) → a ∈ As ∧ Slots c Fb (upd H a o) As (δ.set i x) σ := by
  intro As δ σ s
  induction s with
  | nil => intro _ _ i a h; simp at h
  | @un A' δ' σ' o' s ih =>
    intro hF hN i a h hy hx
    cases i with
    | zero =>
      obtain ⟨y, e, z⟩ := hy
      simp at e; subst e
      rcases z with ⟨_, z⟩ | ⟨_, z⟩ <;> cases z
    | succ i =>
      obtain ⟨h1, h2⟩ := ih hF hN (i := i) (a := a) (by simpa using h) (by simpa using hy) hx
      exact ⟨h1, .un h2⟩
  | @val A' δ' σ' v d r s ih =>
    intro hF hN i a h hy hx
    cases i with
    | zero =>
      obtain ⟨y, e, z⟩ := hy
      simp at e; subst e
      rcases z with ⟨_, z⟩ | ⟨_, z⟩ <;> cases z
    | succ i =>
      obtain ⟨h1, h2⟩ := ih hF hN (i := i) (a := a) (by simpa using h) (by simpa using hy) hx
      exact ⟨h1, .val (r.ext (ext_upd ho (hF a h1))) h2⟩
  | @own A' δ' σ' a' vs ds q r s ih =>
    intro hF hN i a h hy hx
    rw [List.nodup_cons] at hN
    cases i with
    | zero =>
      simp at h; subst h
      exact ⟨List.mem_cons_self, hx _ _ _ (Slots.turn ho (hF _ List.mem_cons_self) s hN.1)⟩
    | succ i =>
      obtain ⟨h1, h2⟩ := ih (fun b hb => hF b (List.mem_cons_of_mem _ hb)) hN.2 (i := i) (a := a) (by simpa using h) (by simpa using hy) hx
      have ne : a' ≠ a := by
        intro z; subst z; exact hN.1 h1
      exact ⟨List.mem_cons_of_mem _ h1, .own (by rw [upd_ne ne]; exact q) (r.ext (ext_upd ho (hF a (List.mem_cons_of_mem _ h1)))) h2⟩
  | @ownD A' δ' σ' a' vs ds q r s ih =>
    intro hF hN i a h hy hx
    rw [List.nodup_cons] at hN
    cases i with
    | zero =>
      simp at h; subst h
      exact ⟨List.mem_cons_self, hx _ _ _ (Slots.turn ho (hF _ List.mem_cons_self) s hN.1)⟩
    | succ i =>
      obtain ⟨h1, h2⟩ := ih (fun b hb => hF b (List.mem_cons_of_mem _ hb)) hN.2 (i := i) (a := a) (by simpa using h) (by simpa using hy) hx
      have ne : a' ≠ a := by
        intro z; subst z; exact hN.1 h1
      exact ⟨List.mem_cons_of_mem _ h1, .ownD (by rw [upd_ne ne]; exact q) (r.ext (ext_upd ho (hF a (List.mem_cons_of_mem _ h1)))) h2⟩
theorem jd_turn {c : Cn} {a : Addr} {o u : HO} (j : JD c H) (h : H a = some u) (nw : ¬ c.W a) (hu : (∃ xs, u = .lst xs) ∨ ∃ xs, u = .dK xs) : JD c (upd H a o) := by
  refine ⟨fun b l e => ?_, fun p hp => ?_⟩
  · obtain ⟨i1, i2, i3, i4, h1, h2, q⟩ := j.pen b l e
    exact ⟨i1, i2, i3, i4, h1, h2, by
      have ne : b ≠ a := by
        intro z; subst z; exact nw ⟨l, e⟩
      rw [upd_ne ne]; exact q⟩
  · obtain ⟨ps, q1, q2, q3⟩ := j.tabs p hp
    have n1 : ∀ b w, H b = some w → ((∀ xs, w ≠ .lst xs) ∧ ∀ xs, w ≠ .dK xs) → b ≠ a := fun b w e n z => by
      rw [z, h] at e
      cases e
      rcases hu with ⟨xs, z⟩ | ⟨xs, z⟩
      · exact n.1 xs z
      · exact n.2 xs z
    refine ⟨ps, by rw [upd_ne (n1 _ _ q1 ⟨(fun xs z => nomatch z), (fun xs z => nomatch z)⟩)]; exact q1, q2, fun pos cv hc => ?_⟩
    obtain ⟨c', e1, e2⟩ := q3 pos cv hc
    exact ⟨c', e1, by rw [upd_ne (n1 _ _ e2 ⟨(fun xs z => nomatch (show HO.ext _ = HO.lst xs from z)), (fun xs z => nomatch (show HO.ext _ = HO.dK xs from z))⟩)]; exact e2⟩
/-- own list i gets another content -/
theorem Ok.turn (ok : Ok g A δ σ H) {i : Nat} {a : Addr} {o u : HO} {x : Slot} (h : σ[i]? = some (some (.ref a))) (ha : a ∈ A) (hu : H a = some u) (hl : (∃ xs, u = .lst xs) ∨ ∃ xs, u = .dK xs) (ho : ∀ ps, o ≠ .tbl ps) (hy : ∃ y, δ[i]? = some y ∧ ((∃ ds, y = .own ds) ∨ ∃ ds, y = .ownD ds))
    (hx : ∀ (B : List Addr) (δ' : List Slot) (σ' : St), Slots g.toCn (g.bar A) (upd H a o) B δ' σ' → Slots g.toCn (g.bar A) (upd H a o) (a :: B) (x :: δ') (some (.ref a) :: σ')) : Ok g A (δ.set i x) σ (upd H a o) ∧ Later g A H A (upd H a o) := by
  obtain ⟨As, nd, sub, sl⟩ := ok.sl
  have nw := ok.noW a ha
  obtain ⟨h1, h2⟩ := Slots.turnAt ho sl (fun b hb => .inr (sub b hb)) nd h hy hx
  refine ⟨⟨ok.cl, jd_turn ok.jd hu (fun z => nw (ok.wV a z)) hl, ok.wV, ⟨fun b w q n t => ?_, fun b q => ?_⟩, ok.fW, ok.fd, ok.new, fun b hb => ?_, As, nd, sub, h2⟩, Later.of (ext_upd ho (.inr ha))⟩
  · have ne : b ≠ a := fun z => by
      rw [z] at q; exact (ok.new a ha).no q t
    rw [upd_ne ne]; exact ok.ext.keep b w q n t
  · refine ok.ext.dom b fun u e => ?_
    by_cases z : b = a
    · rw [z] at q; exact (q.no upd_same ho).elim
    · exact q u (by rw [upd_ne z]; exact e)
  · by_cases z : b = a
    · rw [z]; exact ⟨o, upd_same, ho⟩
    · rw [upd_ne z]; exact ok.tk b hb
end

/-! ### an expression that a name gets: a value, or a new list or dict of the frame's own -/
abbrev TDV := List Slot → (Slot → Prop) → Prop
def PostV (g : Gh) (A : List Addr) (H : Hp) (Q : VK) : Slot → Prop
  | .un => False
  | .val d => Post g A H Q d
  | .own ds => ∀ p vs H', Ext g.V H H' → JD g.toCn H' → vac H p → H' p = some (.lst vs) → Reps g.toCn (g.bar (p :: A)) H' vs ds → Q (.ref p) H'
  | .ownD ds => ∀ p vs H', Ext g.V H H' → JD g.toCn H' → vac H p → H' p = some (.dK vs) → RepK g.toCn (g.bar (p :: A)) H' vs ds → Q (.ref p) H'
theorem PostV.step {g : Gh} {A : List Addr} {H H1 : Hp} {Q : VK} {s : Slot} (e : Ext g.V H H1) (h : PostV g A H Q s) : PostV g A H1 Q s := by
  cases s with
  | un => exact h
  | val d => exact Post.step e h
  | own ds => exact fun p vs H' e1 j n q r => h p vs H' (e.trans e1) j (e.dom p n) q r
  | ownD ds => exact fun p vs H' e1 j n q r => h p vs H' (e.trans e1) j (e.dom p n) q r
def LiftV (g : Gh) (t : TDV) : TE := fun σ H Q => ∃ A δ, Ok g A δ σ H ∧ t δ (PostV g A H Q)
structure DV (X : Cx) (g : Gh) (e : Expr) (t : TDV) : Prop where
  pe : PE X e (LiftV g t)
  mono : ∀ δ (K K' : Slot → Prop), (∀ d, K d → K' d) → t δ K → t δ K'
def dVal (t : TD) : TDV := fun δ K => t δ fun d => K (.val d)
section
variable {X : Cx} {g : Gh} {EX : List Slot → Exc → Prop} {j k : Nat} {e : Expr} {es : List Expr} {pos : Pos}
theorem dv_of {t : TD} (h : DE X g e t) : DV X g e (dVal t) := ⟨h.pe, fun δ K K' hk q => h.mono _ _ _ (fun d hd => hk _ hd) q⟩
def dNewL (u : TDA) : TDV := fun δ K => u δ fun ds => ds.length ≤ sizeLine ∧ K (.own ds)
theorem bar_new {A : List Addr} {H : Hp} {p : Addr} (hp : vac H p) : ∀ b, g.bar (p :: A) b → g.bar A b ∨ vac H b := fun b hb => by
  rcases hb with z | z
  · exact .inl (.inl z)
  · rcases List.mem_cons.mp z with z | z
    · rw [z]; exact .inr hp
    · exact .inl (.inr z)
theorem dv_lst {u : TDA} (h : DA X g es u) : DV X g (.List es pos) (dNewL u) := by
  refine ⟨PE.weak (pe_lst h.pa) fun σ H Q q => ?_, fun δ K K' hk q => h.mono _ _ _ (fun ds z => ⟨z.1, hk _ z.2⟩) q⟩
  obtain ⟨A, δ, ok, q⟩ := q
  refine ⟨A, δ, ok, h.mono _ _ _ (fun ds z vs H1 e1 j1 r1 => ⟨by rw [r1.length]; exact z.1, fun p hp => ?_⟩) q⟩
  exact z.2 p vs _ (e1.trans (Ext.new hp)) (j1.new hp) (e1.dom p (vac.of hp)) upd_same ((r1.anti (bar_new (vac.of hp))).ext (Ext.new hp))
def dNewD : TDV := fun _ K => K (.ownD [])
theorem dv_dnew : DV X g (.Dict [] [] pos) dNewD := by
  refine ⟨PE.weak pe_dnewK fun σ H Q q => ?_, fun δ K K' hk q => hk _ q⟩
  obtain ⟨A, δ, ok, q⟩ := q
  intro p hp
  exact q p [] _ (Ext.new hp) (ok.jd.new hp) (vac.of hp) upd_same .nil

/-! ### blocks -/
theorem PostS.le {A A' : List Addr} {H H' : Hp} {N : Ends} (l : Later g A H A' H') : DEnds.Le (PostS g A H N) (PostS g A' H' N) :=
  ⟨fun δ h σ' A2 H2 ok l2 => h σ' A2 H2 ok (l.trans l2), fun d h => h, fun δ h σ' A2 H2 ok l2 => h σ' A2 H2 ok (l.trans l2), fun δ h σ' A2 H2 ok l2 => h σ' A2 H2 ok (l.trans l2)⟩
theorem later_of {A : List Addr} {δ : List Slot} {σ : St} {H H' : Hp} (ok : Ok g A δ σ H) (e : Ext g.V H H') : Later g A H A H' := Later.of (e.mono fun b h => .inl (ok.fW b h))
theorem later_new {A : List Addr} {δ : List Slot} {σ : St} {H H' : Hp} {p : Addr} (ok : Ok g A δ σ H) (e : Ext g.V H H') (hp : vac H p) : Later g A H (p :: A) H' := ⟨e.mono fun b h => .inl (ok.fW b h), fun b hb => by
  rcases List.mem_cons.mp hb with z | z
  · rw [z]; exact .inr hp
  · exact .inl z⟩
variable {st : Stmt} {rest : List Stmt} {t u : TDS}
def dNext : TDS := fun N δ => N.nx δ
def dSeq (t u : TDS) : TDS := fun N δ => t { N with nx := u N } δ
theorem dss_nil : DSs X g [] dNext := ⟨PSs.weak pss_nil fun N σ H ⟨A, δ, ok, h⟩ => h σ A H ok Later.refl, fun D1 D2 δ l h => l.nx _ h⟩
theorem dss_cons (h1 : DS X g st t) (h2 : DSs X g rest u) : DSs X g (st :: rest) (dSeq t u) := by
  refine ⟨PSs.weak (pss_cons h1.ps h2.pss) fun N σ H h => ?_, fun D1 D2 δ l h => h1.mono { D1 with nx := u D1 } { D2 with nx := u D2 } δ ⟨fun δ' h => h2.mono _ _ _ l h, l.rt, l.bk, l.ct⟩ h⟩
  obtain ⟨A, δ, ok, h⟩ := h
  refine ⟨A, δ, ok, h1.mono { PostS g A H N with nx := u (PostS g A H N) } _ _ ⟨fun δ' h σ' A' H' ok' l' => ?_, fun d h => h, fun δ h => h, fun δ h => h⟩ h⟩
  exact ⟨A', δ', ok', h2.mono _ _ _ (PostS.le l') h⟩
theorem dss_one (h1 : DS X g st t) : DSs X g [st] t := ⟨pss_one h1.ps, h1.mono⟩
theorem ds_pass : DS X g (.Pass pos) dNext := ⟨PS.weak ps_pass fun N σ H ⟨A, δ, ok, h⟩ => h σ A H ok Later.refl, fun D1 D2 δ l h => l.nx _ h⟩
def dBreak : TDS := fun N δ => N.bk δ
def dCont : TDS := fun N δ => N.ct δ
theorem ds_break : DS X g (.Break pos) dBreak := ⟨PS.weak ps_break fun N σ H ⟨A, δ, ok, h⟩ => h σ A H ok Later.refl, fun D1 D2 δ l h => l.bk _ h⟩
theorem ds_continue : DS X g (.Continue pos) dCont := ⟨PS.weak ps_continue fun N σ H ⟨A, δ, ok, h⟩ => h σ A H ok Later.refl, fun D1 D2 δ l h => l.ct _ h⟩
def dDrop (te : TD) : TDS := fun N δ => te δ fun _ => N.nx δ
theorem ds_expr {te : TD} (he : DE X g e te) (hs : swapsWith e none pos.line X.env = pure false := by rfl) : DS X g (.Expr e pos) (dDrop te) := by
  refine ⟨PS.weak (ps_expr he.pe hs) fun N σ H ⟨A, δ, ok, h⟩ => ⟨A, δ, ok, he.mono _ _ _ (fun d hd v H1 e1 j1 r1 => hd σ A H1 (ok.step e1 j1) (later_of ok e1)) h⟩, fun D1 D2 δ l h => he.mono _ _ _ (fun d hd => l.nx _ hd) h⟩
def dRet (te : TD) : TDS := fun N δ => te δ N.rt
theorem Ok.ret {A : List Addr} {δ : List Slot} {σ : St} {H H1 : Hp} {N : Ends} (ok : Ok g A δ σ H) {d : D} (hd : (PostS g A H N).rt d) {v : V} (e1 : Ext g.V H H1) (j1 : JD g.toCn H1) (r1 : Rep g.toCn (g.bar A) H1 v d) : N.rt v H1 :=
  hd v H1 (ok.step e1 j1).J (ok.ext.trans e1) (r1.anti fun b hb => .inl (.inl hb))
theorem ds_ret {te : TD} (he : DE X g e te) : DS X g (.Return (some e) pos) (dRet te) :=
  ⟨PS.weak (ps_ret he.pe) fun N σ H ⟨A, δ, ok, h⟩ => ⟨A, δ, ok, he.mono _ _ _ (fun d hd v H1 e1 j1 r1 => Ok.ret ok hd e1 j1 r1) h⟩, fun D1 D2 δ l h => he.mono _ _ _ l.rt h⟩
def dRetN : TDS := fun N _ => N.rt .non
theorem ds_retN : DS X g (.Return none pos) dRetN :=
  ⟨PS.weak ps_retN fun N σ H ⟨A, δ, ok, h⟩ => h _ H ok.J ok.ext .non, fun D1 D2 δ l h => l.rt _ h⟩
def dIfS (c : TDT) (t u : TDS) : TDS := fun N δ => c δ fun b => if b = true then t N δ else u N δ
theorem ds_if {c : Expr} {a b : List Stmt} {tc : TDT} (hc : DT X g c tc) (ha : DSs X g a t) (hb : DSs X g b u) : DS X g (.If c a b pos) (dIfS tc t u) := by
  refine ⟨PS.weak (ps_if hc.pt ha.pss hb.pss) fun N σ H ⟨A, δ, ok, h⟩ => ⟨A, δ, ok, hc.mono _ _ _ (fun d hd H1 e1 j1 => ?_) h⟩, fun D1 D2 δ l h => hc.mono _ _ _ (fun d hd => ?_) h⟩
  · cases d with
    | true => exact ⟨A, δ, ok.step e1 j1, ha.mono _ _ _ (PostS.le (later_of ok e1)) hd⟩
    | false => exact ⟨A, δ, ok.step e1 j1, hb.mono _ _ _ (PostS.le (later_of ok e1)) hd⟩
  · cases d with
    | true => exact ha.mono _ _ _ l hd
    | false => exact hb.mono _ _ _ l hd

/-! ### stores -/
/-- a slot gets what an expression gave -/
theorem slot_put {A : List Addr} {δ : List Slot} {σ : St} {H : Hp} {N : Ends} {s : Slot} (ok : Ok g A δ σ H) (i : Nat) (hs : s ≠ .un) (h : (PostS g A H N).nx (δ.set i s)) : PostV g A H (fun x H1 => N.nx (σ.set i (some x)) H1) s := by
  cases s with
  | un => exact absurd rfl hs
  | val d => exact fun v H1 e1 j1 r1 => h _ A H1 ((ok.step e1 j1).setVal r1 i) (later_of ok e1)
  | own ds => exact fun p vs H1 e1 j1 hp hq r1 => h _ (p :: A) H1 (ok.setOwn e1 j1 hp hq r1 i) (later_new ok e1 hp)
  | ownD ds => exact fun p vs H1 e1 j1 hp hq r1 => h _ (p :: A) H1 (ok.setOwnD e1 j1 hp hq r1 i) (later_new ok e1 hp)
def isS : Slot → Bool
  | .un => false
  | _ => true
theorem isS_ne {s : Slot} (h : isS s = true) : s ≠ .un := by
  intro z; subst z; cases h
def dSet (i : Nat) (te : TDV) : TDS := fun N δ => te δ fun s => isS s = true ∧ N.nx (δ.set i s)
theorem ds_set (i : Nat) {x : Str} {te : TDV} {pos' : Pos} (z : Cb X g) (hi : X.N[i]? = some x) (hx : Loc X.env.scope x) (he : DV X g e te) (hs : swapsWith e (some (.Name x pos')) pos.line X.env = pure false := by rfl)
    (hf : X.fn x = true ∨ X.env.scope.names.lookup x = some .local := by first | exact .inl rfl | exact .inr rfl | assumption) : DS X g (.Assign [.Name x pos'] e pos) (dSet i te) := by
  refine ⟨PS.weak (ps_set z.nd hi hx he.pe hs hf) fun N σ H ⟨A, δ, ok, h⟩ => ⟨A, δ, ok, he.mono _ _ _ (fun s hs => slot_put ok i (isS_ne hs.1) hs.2) h⟩, fun D1 D2 δ l h => he.mono _ _ _ (fun d hd => ⟨hd.1, l.nx _ hd.2⟩) h⟩

/-! ### targets -/
abbrev TDG := D → List Slot → (List Slot → Prop) → Prop
abbrev TDGs := List D → List Slot → (List Slot → Prop) → Prop
def PostG (g : Gh) (A : List Addr) (H : Hp) (Q : St → Hp → Prop) : List Slot → Prop := fun δ' => ∀ σ' A' H', Ok g A' δ' σ' H' → Later g A H A' H' → Q σ' H'
theorem PostG.step {A A' : List Addr} {H H' : Hp} {Q : St → Hp → Prop} {δ : List Slot} (l : Later g A H A' H') (h : PostG g A H Q δ) : PostG g A' H' Q δ := fun σ' A2 H2 ok l2 => h σ' A2 H2 ok (l.trans l2)
def LiftG (g : Gh) (t : TDG) : TG := fun v σ H Q => ∃ A δ d, Ok g A δ σ H ∧ Rep g.toCn (g.bar A) H v d ∧ t d δ (PostG g A H Q)
def LiftGs (g : Gh) (t : TDGs) : TGs := fun vs σ H Q => ∃ A δ ds, Ok g A δ σ H ∧ Reps g.toCn (g.bar A) H vs ds ∧ t ds δ (PostG g A H Q)
structure DG (X : Cx) (g : Gh) (target : Expr) (t : TDG) : Prop where
  pg : PG X target (LiftG g t)
  mono : ∀ d δ (K K' : List Slot → Prop), (∀ x, K x → K' x) → t d δ K → t d δ K'
structure DGs (X : Cx) (g : Gh) (ts : List Expr) (t : TDGs) : Prop where
  pgs : PGs X ts (LiftGs g t)
  mono : ∀ d δ (K K' : List Slot → Prop), (∀ x, K x → K' x) → t d δ K → t d δ K'
theorem PG.weak {e : Expr} {t t' : TG} (h : PG X e t) (w : ∀ v σ H Q, t' v σ H Q → t v σ H Q) : PG X e t' := ⟨fun pins s σ H v u Q I r q => h.run pins s σ H v u Q I r (w v σ H Q q)⟩
theorem PGs.weak {e : List Expr} {t t' : TGs} (h : PGs X e t) (w : ∀ v σ H Q, t' v σ H Q → t v σ H Q) : PGs X e t' := ⟨fun pins s σ H v u Q I r q => h.run pins s σ H v u Q I r (w v σ H Q q)⟩
def dgName (i : Nat) : TDG := fun d δ K => K (δ.set i (.val d))
theorem dg_name (i : Nat) {x : Str} (z : Cb X g) (hi : X.N[i]? = some x) (hx : Loc X.env.scope x) (hf : X.fn x = true ∨ X.env.scope.names.lookup x = some .local := by first | exact .inl rfl | exact .inr rfl | assumption) : DG X g (.Name x pos) (dgName i) :=
  ⟨PG.weak (pg_name z.nd hi hx hf) fun v σ H Q ⟨A, δ, d, ok, r, h⟩ => h _ A H (ok.setVal r i) Later.refl, fun d δ K K' hk h => hk _ h⟩
def dgNil : TDGs := fun ds δ K => ds = [] ∧ K δ
def dgCons (t : TDG) (u : TDGs) : TDGs := fun ds δ K => match ds with
  | [] => False
  | d :: r => t d δ fun δ' => u r δ' K
theorem dgs_nil : DGs X g [] dgNil := by
  refine ⟨PGs.weak pgs_nil fun vs σ H Q ⟨A, δ, ds, ok, r, h⟩ => ?_, fun d δ K K' hk h => ⟨h.1, hk _ h.2⟩⟩
  obtain ⟨e, h⟩ := h
  subst e
  cases r
  exact ⟨rfl, h σ A H ok Later.refl⟩
theorem dgs_cons {es : List Expr} {t : TDG} {u : TDGs} (h1 : DG X g e t) (h2 : DGs X g es u) (hs : (assignEach (e :: es) X.env).map (·.2) = assign e X.env :: (assignEach es X.env).map (·.2) := by rfl) : DGs X g (e :: es) (dgCons t u) := by
  refine ⟨PGs.weak (pgs_cons h1.pg h2.pgs hs) fun vs σ H Q ⟨A, δ, ds, ok, r, h⟩ => ?_, fun d δ K K' hk h => ?_⟩
  · cases r with
    | nil => exact h.elim
    | cons r rr =>
      refine ⟨_, _, rfl, A, δ, _, ok, r, h1.mono _ _ _ _ (fun δ' h σ' A' H' ok' l' => ?_) h⟩
      exact ⟨A', δ', _, ok', l'.reps rr, h2.mono _ _ _ _ (fun x hx => PostG.step l' hx) h⟩
  · cases d with
    | nil => exact h
    | cons d r => exact h1.mono _ _ _ _ (fun δ' h => h2.mono _ _ _ _ hk h) h
def dgTup (n : Nat) (t : TDGs) : TDG := fun d δ K => match d with
  | .tup ds => ds.length = n ∧ t ds δ K
  | _ => False
theorem dg_tup {es : List Expr} {kk : Nat} {t : TDGs} {n : Nat} (z : Cz X g EX j) (h : DGs X g es t) (hn : (assignEach es X.env).length = n := by rfl) (hst : (assignEach es X.env).findIdx? (·.1) = none := by rfl) : DG X g (.Tuple es kk pos) (dgTup n t) := by
  refine ⟨PG.weak (pg_tup z.calm h.pgs hn hst) fun v σ H Q ⟨A, δ, d, ok, r, q⟩ => ?_, fun d δ K K' hk q => ?_⟩
  · cases d with
    | tup ds =>
      obtain ⟨a, vs, e1, e2, e3⟩ := r.isTup
      rw [← z.hK]
      exact ⟨a, vs, e1, e2, by rw [e3.length]; exact q.1, A, δ, ds, ok, e3, q.2⟩
    | _ => exact (show False from q).elim
  · cases d with
    | tup ds => exact ⟨q.1, h.mono _ _ _ _ hk q.2⟩
    | _ => exact (show False from q).elim
def dAsg (te : TD) (t : TDG) : TDS := fun N δ => te δ fun d => t d δ N.nx
theorem ds_asg {tg : Expr} {te : TD} {t : TDG} (he : DE X g e te) (hg : DG X g tg t) (hs : swapsWithSole [tg] e pos.line X.env = pure false := by rfl) (hw : swappedStores [tg] e X.env = pure none := by rfl)
    (h1 : (assignEach [tg] X.env).map (·.2) = [assign tg X.env] := by rfl) : DS X g (.Assign [tg] e pos) (dAsg te t) := by
  refine ⟨PS.weak (ps_asg he.pe hg.pg hs hw h1) fun N σ H ⟨A, δ, ok, h⟩ => ⟨A, δ, ok, he.mono _ _ _ (fun d hd v H1 e1 j1 r1 => ?_) h⟩, fun D1 D2 δ l h => he.mono _ _ _ (fun d hd => hg.mono _ _ _ _ l.nx hd) h⟩
  exact ⟨A, δ, d, ok.step e1 j1, r1, hg.mono _ _ _ _ (fun δ' h => PostG.step (later_of ok e1) h) hd⟩

/-! ### a frame's own list -/
/-- it may be handed on from here -/
def dRel (i : Nat) (t : TDS) : TDS := fun N δ => t N (match δ[i]? with
  | some (.own ds) => δ.set i (.val (.lst ds))
  | some (.ownD ds) => δ.set i (.val (.dct ds))
  | _ => δ)
end
end DL

set_option Elab.async false
set_option linter.all false
set_option maxRecDepth 100000
set_option maxHeartbeats 4000000
/-! DL6: a frame's own lists, loops, raise. -/
namespace DL
open PySem PySem.Spec PyProof.Rows L2

section
variable {g : Gh} {A A' : List Addr} {δ : List Slot} {σ : St} {H H' : Hp}
theorem Slots.freed {c : Cn} {Fb : Addr → Prop} {a : Addr} (na : ¬ Fb a) : ∀ {As : List Addr} {δ : List Slot} {σ : St}, Slots c Fb H As δ σ → As.Nodup → ∀ {i : Nat}, σ[i]? = some (some (.ref a)) →
    (∀ ds, δ[i]? = some (.own ds) → a ∈ As ∧ ∃ B : List Addr, B.Nodup ∧ (∀ b ∈ B, b ∈ As ∧ b ≠ a) ∧ Slots c Fb H B (δ.set i (.val (.lst ds))) σ) ∧
    (∀ ds, δ[i]? = some (.ownD ds) → a ∈ As ∧ ∃ B : List Addr, B.Nodup ∧ (∀ b ∈ B, b ∈ As ∧ b ≠ a) ∧ Slots c Fb H B (δ.set i (.val (.dct ds))) σ) := by
  intro As δ σ s
  induction s with
  | nil => intro _ i h; simp at h
  | un s ih =>
    intro hN i h
    cases i with
    | zero => exact ⟨fun ds e => by simp at e, fun ds e => by simp at e⟩
    | succ i =>
      obtain ⟨h1, h2⟩ := ih hN (i := i) (by simpa using h)
      refine ⟨fun ds e => ?_, fun ds e => ?_⟩
      · obtain ⟨m, B, b1, b2, b3⟩ := h1 ds (by simpa using e)
        exact ⟨m, B, b1, b2, .un b3⟩
      · obtain ⟨m, B, b1, b2, b3⟩ := h2 ds (by simpa using e)
        exact ⟨m, B, b1, b2, .un b3⟩
  | val r s ih =>
    intro hN i h
    cases i with
    | zero => exact ⟨fun ds e => by simp at e, fun ds e => by simp at e⟩
    | succ i =>
      obtain ⟨h1, h2⟩ := ih hN (i := i) (by simpa using h)
      refine ⟨fun ds e => ?_, fun ds e => ?_⟩
      · obtain ⟨m, B, b1, b2, b3⟩ := h1 ds (by simpa using e)
        exact ⟨m, B, b1, b2, .val r b3⟩
      · obtain ⟨m, B, b1, b2, b3⟩ := h2 ds (by simpa using e)
        exact ⟨m, B, b1, b2, .val r b3⟩
  | @own A' δ' σ' a' vs ds0 q r s ih =>
    intro hN i h
    rw [List.nodup_cons] at hN
    cases i with
    | zero =>
      simp at h; subst h
      refine ⟨fun ds e => ?_, fun ds e => by simp at e⟩
      simp at e; subst e
      exact ⟨List.mem_cons_self, A', hN.2, fun b hb => ⟨List.mem_cons_of_mem _ hb, fun z => hN.1 (by rw [← z]; exact hb)⟩, .val (.lst q na r) s⟩
    | succ i =>
      obtain ⟨h1, h2⟩ := ih hN.2 (i := i) (by simpa using h)
      refine ⟨fun ds e => ?_, fun ds e => ?_⟩
      · obtain ⟨m, B, b1, b2, b3⟩ := h1 ds (by simpa using e)
        refine ⟨List.mem_cons_of_mem _ m, a' :: B, List.nodup_cons.mpr ⟨fun z => hN.1 (b2 _ z).1, b1⟩, fun b hb => ?_, .own q r b3⟩
        rcases List.mem_cons.mp hb with z | z
        · exact ⟨by rw [z]; exact List.mem_cons_self, fun w => hN.1 (by rw [← z, w]; exact m)⟩
        · exact ⟨List.mem_cons_of_mem _ (b2 b z).1, (b2 b z).2⟩
      · obtain ⟨m, B, b1, b2, b3⟩ := h2 ds (by simpa using e)
        refine ⟨List.mem_cons_of_mem _ m, a' :: B, List.nodup_cons.mpr ⟨fun z => hN.1 (b2 _ z).1, b1⟩, fun b hb => ?_, .own q r b3⟩
        rcases List.mem_cons.mp hb with z | z
        · exact ⟨by rw [z]; exact List.mem_cons_self, fun w => hN.1 (by rw [← z, w]; exact m)⟩
        · exact ⟨List.mem_cons_of_mem _ (b2 b z).1, (b2 b z).2⟩
  | @ownD A' δ' σ' a' vs ds0 q r s ih =>
    intro hN i h
    rw [List.nodup_cons] at hN
    cases i with
    | zero =>
      simp at h; subst h
      refine ⟨fun ds e => by simp at e, fun ds e => ?_⟩
      simp at e; subst e
      exact ⟨List.mem_cons_self, A', hN.2, fun b hb => ⟨List.mem_cons_of_mem _ hb, fun z => hN.1 (by rw [← z]; exact hb)⟩, .val (.dct q na r) s⟩
    | succ i =>
      obtain ⟨h1, h2⟩ := ih hN.2 (i := i) (by simpa using h)
      refine ⟨fun ds e => ?_, fun ds e => ?_⟩
      · obtain ⟨m, B, b1, b2, b3⟩ := h1 ds (by simpa using e)
        refine ⟨List.mem_cons_of_mem _ m, a' :: B, List.nodup_cons.mpr ⟨fun z => hN.1 (b2 _ z).1, b1⟩, fun b hb => ?_, .ownD q r b3⟩
        rcases List.mem_cons.mp hb with z | z
        · exact ⟨by rw [z]; exact List.mem_cons_self, fun w => hN.1 (by rw [← z, w]; exact m)⟩
        · exact ⟨List.mem_cons_of_mem _ (b2 b z).1, (b2 b z).2⟩
      · obtain ⟨m, B, b1, b2, b3⟩ := h2 ds (by simpa using e)
        refine ⟨List.mem_cons_of_mem _ m, a' :: B, List.nodup_cons.mpr ⟨fun z => hN.1 (b2 _ z).1, b1⟩, fun b hb => ?_, .ownD q r b3⟩
        rcases List.mem_cons.mp hb with z | z
        · exact ⟨by rw [z]; exact List.mem_cons_self, fun w => hN.1 (by rw [← z, w]; exact m)⟩
        · exact ⟨List.mem_cons_of_mem _ (b2 b z).1, (b2 b z).2⟩
def relS (δ : List Slot) (i : Nat) : List Slot := match δ[i]? with
  | some (.own ds) => δ.set i (.val (.lst ds))
  | some (.ownD ds) => δ.set i (.val (.dct ds))
  | _ => δ
theorem Slots.ref {c : Cn} {Fb : Addr → Prop} : ∀ {As : List Addr} {δ : List Slot} {σ : St}, Slots c Fb H As δ σ → ∀ {i : Nat}, (∃ ds, δ[i]? = some (.own ds)) ∨ (∃ ds, δ[i]? = some (.ownD ds)) → ∃ a, σ[i]? = some (some (.ref a)) := by
  intro As δ σ s
  induction s with
  | nil => intro i h; simp at h
  | un _ ih => intro i h; cases i with
    | zero => simp at h
    | succ i => simpa using ih (i := i) (by simpa using h)
  | val _ _ ih => intro i h; cases i with
    | zero => simp at h
    | succ i => simpa using ih (i := i) (by simpa using h)
  | own _ _ _ ih => intro i h; cases i with
    | zero => exact ⟨_, rfl⟩
    | succ i => simpa using ih (i := i) (by simpa using h)
  | ownD _ _ _ ih => intro i h; cases i with
    | zero => exact ⟨_, rfl⟩
    | succ i => simpa using ih (i := i) (by simpa using h)
theorem Ok.rel (ok : Ok g A δ σ H) (i : Nat) : ∃ A', Ok g A' (relS δ i) σ H ∧ Later g A H A' H := by
  obtain ⟨As, nd, sub, sl⟩ := ok.sl
  have go : ∀ a, σ[i]? = some (some (.ref a)) → (∃ y, δ[i]? = some y ∧ ((∃ ds, y = .own ds) ∨ ∃ ds, y = .ownD ds)) → ∃ A', Ok g A' (relS δ i) σ H ∧ Later g A H A' H := by
    intro a ha hy
    obtain ⟨y, e, hy⟩ := hy
    have main : ∀ (x : Slot), relS δ i = δ.set i x → a ∈ As → (∀ Fb' : Addr → Prop, ¬ Fb' a → Slots g.toCn Fb' H As δ σ → ∃ B : List Addr, B.Nodup ∧ (∀ b ∈ B, b ∈ As ∧ b ≠ a) ∧ Slots g.toCn Fb' H B (δ.set i x) σ) → ∃ A', Ok g A' (relS δ i) σ H ∧ Later g A H A' H := by
      intro x ex ma hx
      refine ⟨A.filter fun b => decide (b ≠ a), ?_, ⟨Ext.refl _ _, fun b hb => .inl (List.mem_filter.mp hb).1⟩⟩
      have sub2 : ∀ b, g.bar (A.filter fun b => decide (b ≠ a)) b → g.bar A b := fun b hb => hb.imp id fun z => (List.mem_filter.mp z).1
      have na : ¬ g.bar (A.filter fun b => decide (b ≠ a)) a := by
        intro z
        rcases z with z | z
        · obtain ⟨o, q, t⟩ := ok.fd a z
          exact (ok.new a (sub a ma)).no q ‹_›
        · exact (of_decide_eq_true (List.mem_filter.mp z).2) rfl
      obtain ⟨B, b1, b2, b3⟩ := hx _ na (Slots.anti (fun b hb => .inl (sub2 b hb)) sl)
      rw [ex]
      exact ⟨ok.cl, ok.jd, ok.wV, ok.ext, ok.fW, ok.fd, fun b hb => ok.new b (List.mem_filter.mp hb).1, fun b hb => ok.tk b (List.mem_filter.mp hb).1, B, b1, fun b hb => List.mem_filter.mpr ⟨sub b (b2 b hb).1, decide_eq_true (b2 b hb).2⟩, b3⟩
    rcases hy with ⟨ds, hy⟩ | ⟨ds, hy⟩
    · subst hy
      have ma : a ∈ As := by
        obtain ⟨a', vs, q1, q2, _⟩ := sl.getOwn e
        rw [ha] at q1
        cases q1
        exact q2
      exact main (.val (.lst ds)) (by unfold relS; rw [e]) ma fun Fb' na s => ((Slots.freed na s nd ha).1 ds e).2
    · subst hy
      have ma : a ∈ As := by
        by_cases hq : a ∈ As
        · exact hq
        · exact ((Slots.freed (c := g.toCn) (Fb := fun _ => False) (a := a) (fun z => z) (Slots.anti (fun b hb => hb.elim) sl) nd ha).2 ds e).1
      exact main (.val (.dct ds)) (by unfold relS; rw [e]) ma fun Fb' na s => ((Slots.freed na s nd ha).2 ds e).2
  cases e : δ[i]? with
  | none => exact ⟨A, by unfold relS; rw [e]; exact ok, Later.refl⟩
  | some y =>
    cases y with
    | own ds =>
      obtain ⟨a, ha⟩ := sl.ref (.inl ⟨ds, e⟩)
      exact go a ha ⟨_, e, .inl ⟨ds, rfl⟩⟩
    | ownD ds =>
      obtain ⟨a, ha⟩ := sl.ref (.inr ⟨ds, e⟩)
      exact go a ha ⟨_, e, .inr ⟨ds, rfl⟩⟩
    | un => exact ⟨A, by unfold relS; rw [e]; exact ok, Later.refl⟩
    | val d => exact ⟨A, by unfold relS; rw [e]; exact ok, Later.refl⟩
end
section
variable {X : Cx} {g : Gh} {EX : List Slot → Exc → Prop} {j k : Nat} {e : Expr} {es : List Expr} {pos : Pos} {t u : TDS}
/-- from here the list in slot i may be handed on -/
def dRl (i : Nat) (t : TDS) : TDS := fun N δ => t N (relS δ i)
theorem dss_rel (i : Nat) {sts : List Stmt} (h : DSs X g sts t) : DSs X g sts (dRl i t) := by
  refine ⟨PSs.weak h.pss fun N σ H ⟨A, δ, ok, q⟩ => ?_, fun D1 D2 δ l q => h.mono _ _ _ l q⟩
  obtain ⟨A', ok', l⟩ := ok.rel i
  exact ⟨A', _, ok', h.mono _ _ _ (PostS.le l) q⟩

/-! ### x.append(e), x.extend(e), x the frame's own list in slot i -/
def dApp (i : Nat) (te : TD) : TDS := fun N δ => match δ[i]? with
  | some (.own ds) => te δ fun d => ds.length < sizeLine ∧ N.nx (δ.set i (.own (ds ++ [d])))
  | _ => False
def dExt (i : Nat) (te : TD) : TDS := fun N δ => match δ[i]? with
  | some (.own ds) => te δ fun d => match d with
    | .lst es => ds.length + es.length ≤ sizeLine ∧ N.nx (δ.set i (.own (ds ++ es)))
    | _ => False
  | _ => False
theorem ds_append (i : Nat) {x : Str} {te : TD} {p apos cpos : Pos} (hN : X.N[i]? = some x) (hv : Vis X.env.scope x) (he : DE X g e te)
    (hbase : attributeBase (.Name x p) "append" X.env (eval (.Name x p) X.env) = eval (.Name x p) X.env := by rfl)
    (hfew : ((backTo cpos (starEach (e :: []) X.env)).all (fun x => !x.1) && (backToKw cpos (keywordEach [] X.env)).all (fun x => x.1.isSome) && decide ((e :: []).length + ([] : List Keyword).length + (if ([] : List Keyword).isEmpty then 0 else 1) < 30)) = true := by rfl)
    (hline : (apos.endLine == cpos.line) = true := by rfl) (hs : starEach (e :: []) X.env = (false, eval e X.env) :: starEach [] X.env := by rfl) (hplain : (backTo cpos (starEach [] X.env)).any (·.1) = false := by rfl)
    (hsw : swapsWith (.Call (.Attribute (.Name x p) "append" apos) [e] [] cpos) none pos.line X.env = pure false := by rfl)
    (hd : (x == ("__debug__" : Str)) = false := by decide) (hcd : (x == ("__classdict__" : Str)) = false := by decide) :
    DS X g (.Expr (.Call (.Attribute (.Name x p) "append" apos) [e] [] cpos) pos) (dApp i te) := by
  refine ⟨PS.weak (ps_expr (pe_bm PySem.F.plainAttrs_list PySem.F.slot_list_append PySem.F.type_list_append mt_append (pe_var (i := i) hN hv hd hcd) (pa_cons he.pe pa_nil hs) hbase hfew hline hs hplain) hsw) fun N σ H ⟨A, δ, ok, h⟩ => ?_, fun D1 D2 δ l h => ?_⟩
  · unfold dApp at h
    split at h
    · rename_i ds ei
      obtain ⟨a, vs, h1, h2, h3, h4⟩ := ok.getOwn ei
      refine ⟨.ref a, h1, .inl ⟨rfl, _, SqL.of h3⟩, A, δ, ok, he.mono _ _ _ (fun d hd v H1 e1 j1 r1 => ?_) h⟩
      have ok1 := ok.step e1 j1
      have q1 : H1 a = some (.lst vs) := e1.keep _ _ h3 (ok.noW a h2) fun ps z => nomatch z
      refine ⟨a, vs, v, rfl, rfl, q1, by rw [h4.length]; exact hd.1, ?_⟩
      have rr : Reps g.toCn (g.bar A) H1 vs ds := h4.ext (e1.mono fun b hb => .inl (ok.fW b hb))
      have w := ok1.turn (i := i) (a := a) (o := .lst (vs ++ [v])) (x := .own (ds ++ [d])) h1 h2 q1 (.inl ⟨_, rfl⟩) (fun ps z => nomatch z) ⟨_, ei, .inl ⟨_, rfl⟩⟩
        (fun B δ' σ' s => .own upd_same ((rr.append (.cons r1 .nil)).ext (ext_upd (fun ps z => by cases z) (.inr h2))) s)
      exact hd.2 σ A _ w.1 ((later_of ok e1).trans w.2)
    · exact h.elim
  · unfold dApp at h ⊢
    split at h
    · exact he.mono _ _ _ (fun d hd => ⟨hd.1, l.nx _ hd.2⟩) h
    · exact h
theorem ds_extend (i : Nat) {x : Str} {te : TD} {p apos cpos : Pos} (hN : X.N[i]? = some x) (hv : Vis X.env.scope x) (he : DE X g e te)
    (hbase : attributeBase (.Name x p) "extend" X.env (eval (.Name x p) X.env) = eval (.Name x p) X.env := by rfl)
    (hfew : ((backTo cpos (starEach (e :: []) X.env)).all (fun x => !x.1) && (backToKw cpos (keywordEach [] X.env)).all (fun x => x.1.isSome) && decide ((e :: []).length + ([] : List Keyword).length + (if ([] : List Keyword).isEmpty then 0 else 1) < 30)) = true := by rfl)
    (hline : (apos.endLine == cpos.line) = true := by rfl) (hs : starEach (e :: []) X.env = (false, eval e X.env) :: starEach [] X.env := by rfl) (hplain : (backTo cpos (starEach [] X.env)).any (·.1) = false := by rfl)
    (hsw : swapsWith (.Call (.Attribute (.Name x p) "extend" apos) [e] [] cpos) none pos.line X.env = pure false := by rfl)
    (hd : (x == ("__debug__" : Str)) = false := by decide) (hcd : (x == ("__classdict__" : Str)) = false := by decide) :
    DS X g (.Expr (.Call (.Attribute (.Name x p) "extend" apos) [e] [] cpos) pos) (dExt i te) := by
  refine ⟨PS.weak (ps_expr (pe_bm PySem.F.plainAttrs_list PySem.F.slot_list_extend PySem.F.type_list_extend mt_extend (pe_var (i := i) hN hv hd hcd) (pa_cons he.pe pa_nil hs) hbase hfew hline hs hplain) hsw) fun N σ H ⟨A, δ, ok, h⟩ => ?_, fun D1 D2 δ l h => ?_⟩
  · unfold dExt at h
    split at h
    · rename_i ds ei
      obtain ⟨a, vs, h1, h2, h3, h4⟩ := ok.getOwn ei
      refine ⟨.ref a, h1, .inl ⟨rfl, _, SqL.of h3⟩, A, δ, ok, he.mono _ _ _ (fun d hd v H1 e1 j1 r1 => ?_) h⟩
      have ok1 := ok.step e1 j1
      have q1 : H1 a = some (.lst vs) := e1.keep _ _ h3 (ok.noW a h2) fun ps z => nomatch z
      cases d with
      | lst es =>
        obtain ⟨b, ws, rfl, hb, rb⟩ := r1.isLst
        refine ⟨a, b, vs, ws, rfl, rfl, q1, hb, by rw [h4.length, rb.length]; exact hd.1, ?_⟩
        have rr : Reps g.toCn (g.bar A) H1 vs ds := h4.ext (e1.mono fun b hb => .inl (ok.fW b hb))
        have w := ok1.turn (i := i) (a := a) (o := .lst (vs ++ ws)) (x := .own (ds ++ es)) h1 h2 q1 (.inl ⟨_, rfl⟩) (fun ps z => nomatch z) ⟨_, ei, .inl ⟨_, rfl⟩⟩
          (fun B δ' σ' s => .own upd_same ((rr.append rb).ext (ext_upd (fun ps z => by cases z) (.inr h2))) s)
        exact hd.2 σ A _ w.1 ((later_of ok e1).trans w.2)
      | _ => exact (show False from hd).elim
    · exact h.elim
  · unfold dExt at h ⊢
    split at h
    · refine he.mono _ _ _ (fun d hd => ?_) h
      cases d with
      | lst es => exact ⟨hd.1, l.nx _ hd.2⟩
      | _ => exact hd
    · exact h

/-! ### loops -/
/-- the turns over given items -/
def turns (tg : TDG) (tb : TDS) (N : DEnds) : List D → List Slot → Prop
  | [], δ => N.nx δ
  | d :: ds, δ => tg d δ fun δ1 => tb { N with nx := turns tg tb N ds, ct := turns tg tb N ds, bk := N.nx } δ1
def iSeq (K : PySem.W.Frag) (tl : TE) : TI := fun σ H R => tl σ H fun x H1 => ∃ a, x = .ref a ∧ (((∃ xs, SqL K H1 a xs) ∧ R (Itl K a) H1) ∨ ((∃ xs, SqT K H1 a xs) ∧ R (Itt K a) H1))
theorem pi_seq {tg l : Expr} {tl : TE} (hl : PE X l tl) : PI X tg l (iSeq X.K tl) := by
  refine ⟨fun pins s σ H R I h => ?_⟩
  refine thn (hl.run pins s σ H _ I h) fun v s1 ⟨x, H1, I1, r1, q1⟩ => ?_
  obtain ⟨a, ex, q1⟩ := q1
  subst ex
  cases r1
  rcases q1 with ⟨⟨xs, hq⟩, q⟩ | ⟨⟨xs, hq⟩, q⟩
  · obtain ⟨its, rv, p, hz⟩ := I1.list hq
    refine wpAny_pyIter_list p.isList ?_
    refine ⟨s1.heap.objs.size, [s1.heap.objs.size], _, _, H1, rfl, I1.kept (t' := s1.toks) fun b o e => Heap.get?_push_of_some _ e, turn_list a _, ⟨_, Heap.get?_push_size _ rfl, rfl, rfl⟩, fun b hb => ?_, q⟩
    have eb : b = s1.heap.objs.size := by simpa using hb
    subst eb
    exact I1.fpOk (Nat.le_refl _) (I1.hok.fresh (Nat.le_refl _))
  · obtain ⟨its, rv, p, hz⟩ := I1.tuple hq
    refine wpAny_pyIter_tuple (show s1.heap.IsTuple a its.toArray from p) ?_
    refine ⟨s1.heap.objs.size, [s1.heap.objs.size], _, _, H1, rfl, I1.kept (t' := s1.toks) fun b o e => Heap.get?_push_of_some _ e, turn_tuple a _, ⟨_, Heap.get?_push_size _ rfl, rfl, rfl⟩, fun b hb => ?_, q⟩
    have eb : b = s1.heap.objs.size := by simpa using hb
    subst eb
    exact I1.fpOk (Nat.le_refl _) (I1.hok.fresh (Nat.le_refl _))
def dFor (te : TD) (tg : TDG) (tb : TDS) : TDS := fun N δ => te δ fun d => ∃ ds, itemsD d = some ds ∧ turns tg tb N ds δ
theorem turns_mono {tg : TDG} {tb : TDS} {target : Expr} {body : List Stmt} (hg : DG X g target tg) (hb : DSs X g body tb) {D1 D2 : DEnds} (l : DEnds.Le D1 D2) : ∀ ds δ, turns tg tb D1 ds δ → turns tg tb D2 ds δ
  | [], δ, h => l.nx _ h
  | d :: ds, δ, h => hg.mono _ _ _ _ (fun δ1 h => hb.mono { D1 with nx := turns tg tb D1 ds, ct := turns tg tb D1 ds, bk := D1.nx } { D2 with nx := turns tg tb D2 ds, ct := turns tg tb D2 ds, bk := D2.nx } _
      ⟨fun δ h => turns_mono hg hb l ds δ h, l.rt, l.nx, fun δ h => turns_mono hg hb l ds δ h⟩ h) h
theorem reps_head {c : Cn} {F : Addr → Prop} {H : Hp} : ∀ {vs : List V} {ds : List D} {i : Nat} {x : V}, Reps c F H vs ds → vs[i]? = some x → ∃ d, ds.drop i = d :: ds.drop (i + 1) ∧ Rep c F H x d
  | _, _, _, _, .nil, h => by simp at h
  | _, _, 0, _, .cons r rs, h => by simp at h; subst h; exact ⟨_, rfl, r⟩
  | _, _, i + 1, x, .cons r rs, h => by
    obtain ⟨d, e1, e2⟩ := reps_head (i := i) rs (by simpa using h)
    exact ⟨d, by simpa using e1, e2⟩
/-- one turn, from the item to the next -/
theorem turn_step {tg : TDG} {tb : TDS} {target : Expr} {body : List Stmt} (hg : DG X g target tg) (hb : DSs X g body tb) {A A0 : List Addr} {δ : List Slot} {σ : St} {H H0 : Hp} {N : Ends} {d : D} {r : List D} {x : V} (ok : Ok g A δ σ H) (l0 : Later g A0 H0 A H) (rx : Rep g.toCn (g.bar A) H x d)
    (h : turns tg tb (PostS g A0 H0 N) (d :: r) δ) (P : St → Hp → Prop) (hP : ∀ σ' A' δ' H', Ok g A' δ' σ' H' → Later g A H A' H' → turns tg tb (PostS g A0 H0 N) r δ' → P σ' H') :
    LiftG g tg x σ H fun σ2 H2 => LiftS g tb { N with nx := P, ct := P, bk := N.nx } σ2 H2 := by
  refine ⟨A, δ, d, ok, rx, hg.mono _ _ _ _ (fun δ1 h σ2 A2 H2 ok2 l2 => ?_) h⟩
  refine ⟨A2, δ1, ok2, hb.mono { PostS g A0 H0 N with nx := turns tg tb (PostS g A0 H0 N) r, ct := turns tg tb (PostS g A0 H0 N) r, bk := (PostS g A0 H0 N).nx } _ _ ⟨fun δ3 h σ3 A3 H3 ok3 l3 => hP σ3 A3 δ3 H3 ok3 (l2.trans l3) h, fun d h => h, fun δ3 h σ3 A3 H3 ok3 l3 => h σ3 A3 H3 ok3 ((l0.trans l2).trans l3), fun δ3 h σ3 A3 H3 ok3 l3 => hP σ3 A3 δ3 H3 ok3 (l2.trans l3) h⟩ h⟩
theorem later_seq {A A' : List Addr} {H H' : Hp} {K : PySem.W.Frag} {a : Addr} {vs : List V} (l : Later g A H A' H') (n : ¬ g.bar A a ∨ vac H a) : (SqL K H a vs → SqL K H' a vs) ∧ (SqT K H a vs → SqT K H' a vs) := by
  refine ⟨fun h => ?_, fun h => ?_⟩
  · rcases h with h | h
    · rcases n with n | n
      · exact .inl (l.ext.rd h n fun ps z => nomatch z)
      · exact (n.rd h fun ps z => nomatch z).elim
    · exact .inr h
  · rcases h with h | h
    · rcases n with n | n
      · exact .inl (l.ext.rd h n fun ps z => nomatch z)
      · exact (n.rd h fun ps z => nomatch z).elim
    · exact .inr h
/-- what stands is not barred later either -/
theorem later_bar {A A' : List Addr} {H H' : Hp} {a : Addr} (l : Later g A H A' H') (n : ¬ g.bar A a) (t : ∃ o, H a = some o ∧ ∀ ps, o ≠ .tbl ps) : ¬ g.bar A' a := by
  intro z
  rcases z with z | z
  · exact n (.inl z)
  · rcases l.bar a z with q | q
    · exact n (.inr q)
    · obtain ⟨o, e, t⟩ := t
      exact q.no e t
theorem ds_for {target iter : Expr} {body : List Stmt} {te : TD} {tg : TDG} {tb : TDS} (z : Cs X g EX j) (hi : DE X g iter te) (hg : DG X g target tg) (hb : DSs X g body tb) (hs : ∀ v, foldedSetIterable iter X.env v = pure v := by intro _; rfl) : DS X g (.For target iter body [] pos) (dFor te tg tb) := by
  refine ⟨PS.weak (ps_for z.pass z.calm (pi_seq hi.pe) hg.pg hb.pss hs) fun N σ H ⟨A, δ, ok, h⟩ => ?_, fun D1 D2 δ l h => hi.mono _ _ _ (fun d ⟨ds, e, q⟩ => ⟨ds, e, turns_mono hg hb l ds δ q⟩) h⟩
  refine ⟨A, δ, ok, hi.mono _ _ _ (fun d hd v H1 e1 j1 r1 => ?_) h⟩
  obtain ⟨ds, ed, q⟩ := hd
  have ok1 := ok.step e1 j1
  have l1 := later_of ok e1
  rw [← z.hK]
  cases d with
  | lst xs =>
    rw [show ds = xs from (Option.some.inj ed).symm] at q
    cases r1 with
    | @lst a vs _ q1 n1 rs =>
      refine ⟨a, rfl, .inl ⟨⟨vs, .of q1⟩, for_list (K := g.K) (a := a) (xs := vs) (fun i σ' H' => ∃ A' δ', Ok g A' δ' σ' H' ∧ Later g A H A' H' ∧ Later g A H1 A' H' ∧ Reps g.toCn (g.bar A') H' vs xs ∧ turns tg tb (PostS g A H N) (xs.drop i) δ')
        ⟨A, δ, ok1, l1, Later.refl, rs, q⟩ (fun i σ' H' _ ⟨A', δ', ok', l', l'', rs', q'⟩ => (later_seq l'' (.inl n1)).1 (.of q1)) (fun i x σ' H' hx ⟨A', δ', ok', l', l'', rs', q'⟩ => ?_) (fun σ' H' ⟨A', δ', ok', l', l'', rs', q'⟩ => ?_)⟩⟩
      · obtain ⟨d, e2, rd⟩ := reps_head rs' hx
        rw [e2] at q'
        exact turn_step hg hb ok' l' rd q' _ fun σ3 A3 δ3 H3 ok3 l3 h => ⟨A3, δ3, ok3, l'.trans l3, l''.trans l3, l3.reps rs', h⟩
      · rw [rs.length, List.drop_length] at q'
        exact q' σ' A' H' ok' l'
  | tup xs =>
    rw [show ds = xs from (Option.some.inj ed).symm] at q
    have key : ∀ {a : Addr} {vs : List V}, (∀ A' H', Later g A H1 A' H' → SqT g.K H' a vs) → Reps g.toCn (g.bar A) H1 vs xs → ∃ W : Nat → Nat → St → Hp → Prop, (∃ m, W 0 m σ H1) ∧ ∀ i m σ H, W i m σ H →
      ((Itt g.K a).stop i H ∧ N.nx σ H) ∨ ((Itt g.K a).go i H ∧ ∃ P : St → Hp → Prop, (∀ σ' H', P σ' H' → ∃ m', m' < m ∧ W (i + 1) m' σ' H') ∧ ∀ x H', (Itt g.K a).yld i H x H' → LiftG g tg x σ H' fun σ2 H2 => LiftS g tb { N with nx := P, ct := P, bk := N.nx } σ2 H2) := by
      intro a vs hq rs
      refine for_tup (K := g.K) (a := a) (xs := vs) (fun i σ' H' => ∃ A' δ', Ok g A' δ' σ' H' ∧ Later g A H A' H' ∧ Later g A H1 A' H' ∧ Reps g.toCn (g.bar A') H' vs xs ∧ turns tg tb (PostS g A H N) (xs.drop i) δ')
        ⟨A, δ, ok1, l1, Later.refl, rs, q⟩ (fun i σ' H' _ ⟨A', δ', ok', l', l'', rs', q'⟩ => hq A' H' l'') (fun i x σ' H' hx ⟨A', δ', ok', l', l'', rs', q'⟩ => ?_) (fun σ' H' ⟨A', δ', ok', l', l'', rs', q'⟩ => ?_)
      · obtain ⟨d, e2, rd⟩ := reps_head rs' hx
        rw [e2] at q'
        exact turn_step hg hb ok' l' rd q' _ fun σ3 A3 δ3 H3 ok3 l3 h => ⟨A3, δ3, ok3, l'.trans l3, l''.trans l3, l3.reps rs', h⟩
      · rw [rs.length, List.drop_length] at q'
        exact q' σ' A' H' ok' l'
    cases r1 with
    | @tup a vs _ q1 n1 rs => exact ⟨a, rfl, .inr ⟨⟨vs, .inl q1⟩, key (fun A' H' l => (later_seq l (.inl n1)).2 (.inl q1)) rs⟩⟩
    | @tupK a vs _ q1 rs => exact ⟨a, rfl, .inr ⟨⟨vs, q1 H1⟩, key (fun A' H' _ => q1 H') rs⟩⟩
  | _ => cases ed

/-! ### for over range -/
def rangeD (a b : Int) : List D := (List.range (b - a).toNat).map fun i : Nat => D.int (a + (i : Int))
def dForR (te : TD) (tg : TDG) (tb : TDS) : TDS := fun N δ => te δ fun d => match d with
  | .int n => -(2 ^ 62) ≤ n ∧ n < 2 ^ 62 ∧ turns tg tb N (rangeD 0 n) δ
  | _ => False
def dForR2 (ta te : TD) (tg : TDG) (tb : TDS) : TDS := fun N δ => ta δ fun c => te δ fun d => match c, d with
  | .int m, .int n => (-(2 ^ 62) ≤ m ∧ m < 2 ^ 62 ∧ -(2 ^ 62) ≤ n ∧ n < 2 ^ 62) ∧ turns tg tb N (rangeD m n) δ
  | _, _ => False
theorem drop_range {m : Int} {n i : Nat} (h : i < n) : ((List.range n).map fun i : Nat => D.int (m + (i : Int))).drop i = D.int (m + (i : Int)) :: ((List.range n).map fun i : Nat => D.int (m + (i : Int))).drop (i + 1) := by
  rw [← List.map_drop, ← List.map_drop]
  rw [List.drop_eq_getElem_cons (by simpa using h)]
  simp
theorem for_rng {target : Expr} {body : List Stmt} {tg : TDG} {tb : TDS} (hg : DG X g target tg) (hb : DSs X g body tb) {A : List Addr} {δ : List Slot} {σ : St} {H H1 : Hp} {N : Ends} {m : Int} {n : Nat} (ok1 : Ok g A δ σ H1) (l1 : Later g A H A H1)
    (q : turns tg tb (PostS g A H N) ((List.range n).map fun i : Nat => D.int (m + (i : Int))) δ) :
    ∃ W : Nat → Nat → St → Hp → Prop, (∃ m', W 0 m' σ H1) ∧ ∀ i m' σ H, W i m' σ H →
      ((Itr m n).stop i H ∧ N.nx σ H) ∨ ((Itr m n).go i H ∧ ∃ P : St → Hp → Prop, (∀ σ' H', P σ' H' → ∃ m'', m'' < m' ∧ W (i + 1) m'' σ' H') ∧ ∀ x H', (Itr m n).yld i H x H' → LiftG g tg x σ H' fun σ2 H2 => LiftS g tb { N with nx := P, ct := P, bk := N.nx } σ2 H2) := by
  refine for_range (lo := m) (n := n) (fun i σ' H' => ∃ A' δ', Ok g A' δ' σ' H' ∧ Later g A H A' H' ∧ turns tg tb (PostS g A H N) (((List.range n).map fun i : Nat => D.int (m + (i : Int))).drop i) δ') ⟨A, δ, ok1, l1, q⟩ (fun i σ' H' hi ⟨A', δ', ok', l', q'⟩ => ?_) (fun σ' H' ⟨A', δ', ok', l', q'⟩ => ?_)
  · rw [drop_range hi] at q'
    exact turn_step hg hb ok' l' (.int _) q' _ fun σ3 A3 δ3 H3 ok3 l3 h => ⟨A3, δ3, ok3, l'.trans l3, h⟩
  · rw [List.drop_eq_nil_of_le (by simp)] at q'
    exact q' σ' A' H' ok' l'
theorem ds_forR {target a : Expr} {body : List Stmt} {te : TD} {tg : TDG} {tb : TDS} {p pos' : Pos} (z : Cs X g EX j) (hgl : Gl X "range") (hm : X.mg "range" = none) (hi : DE X g a te) (hg : DG X g target tg) (hb : DSs X g body tb)
    (hs : starEach [a] X.env = [(false, eval a X.env)] := by rfl) (hs3 : starEach (a :: []) X.env = (false, eval a X.env) :: starEach [] X.env := by rfl) : DS X g (.For target (.Call (.Name "range" p) [a] [] pos') body [] pos) (dForR te tg tb) := by
  refine ⟨PS.weak (ps_for z.pass z.calm (pi_range1 hgl hm (pa_cons hi.pe pa_nil hs3) hs) hg.pg hb.pss) fun N σ H ⟨A, δ, ok, h⟩ => ?_, fun D1 D2 δ l h => hi.mono _ _ _ (fun d hd => ?_) h⟩
  · refine ⟨A, δ, ok, hi.mono _ _ _ (fun d hd v H1 e1 j1 r1 => ?_) h⟩
    cases r1 with
    | int n =>
      refine ⟨n, rfl, hd.1, hd.2.1, for_rng hg hb (ok.step e1 j1) (later_of ok e1) ?_⟩
      have q := hd.2.2
      unfold rangeD at q
      rw [Int.sub_zero] at q
      exact q
    | _ => exact (show False from hd).elim
  · cases d with
    | int n => exact ⟨hd.1, hd.2.1, turns_mono hg hb l _ _ hd.2.2⟩
    | _ => exact hd
theorem ds_forR2 {target a b : Expr} {body : List Stmt} {ta te : TD} {tg : TDG} {tb : TDS} {p pos' : Pos} (z : Cs X g EX j) (hgl : Gl X "range") (hm : X.mg "range" = none) (ha : DE X g a ta) (hi : DE X g b te) (hg : DG X g target tg) (hb : DSs X g body tb)
    (hs : starEach [a, b] X.env = [(false, eval a X.env), (false, eval b X.env)] := by rfl) (hs2 : starEach [b] X.env = [(false, eval b X.env)] := by rfl) (hs3 : starEach (a :: [b]) X.env = (false, eval a X.env) :: starEach [b] X.env := by rfl) (hs4 : starEach (b :: []) X.env = (false, eval b X.env) :: starEach [] X.env := by rfl) :
    DS X g (.For target (.Call (.Name "range" p) [a, b] [] pos') body [] pos) (dForR2 ta te tg tb) := by
  refine ⟨PS.weak (ps_for z.pass z.calm (pi_range2 hgl hm (pa_cons ha.pe (pa_cons hi.pe pa_nil hs4) hs3) hs hs2) hg.pg hb.pss) fun N σ H ⟨A, δ, ok, h⟩ => ?_, fun D1 D2 δ l h => ha.mono _ _ _ (fun c hc => hi.mono _ _ _ (fun d hd => ?_) hc) h⟩
  · refine ⟨A, δ, ok, ha.mono _ _ _ (fun c hc v H1 e1 j1 r1 => ⟨A, δ, ok.step e1 j1, hi.mono _ _ _ (fun d hd v2 H2 e2 j2 r2 => ?_) hc⟩) h⟩
    cases r1 with
    | int m => cases r2 with
      | int n => exact ⟨m, n, rfl, hd.1, for_rng hg hb ((ok.step e1 j1).step e2 j2) (later_of ok (e1.trans e2)) hd.2⟩
      | _ => exact (show False from hd).elim
    | _ => cases r2 <;> exact (show False from hd).elim
  · cases c with
    | int m => cases d with
      | int n => exact ⟨hd.1, turns_mono hg hb l _ _ hd.2⟩
      | _ => exact hd
    | _ => cases d <;> exact hd

/-! ### while -/
def laps (tc : TDT) (tb : TDS) (N : DEnds) : Nat → List Slot → Prop
  | 0, _ => False
  | n + 1, δ => tc δ fun c => if c = true then tb { N with nx := laps tc tb N n, ct := laps tc tb N n, bk := N.nx } δ else N.nx δ
def dWhile (tc : TDT) (tb : TDS) : TDS := fun N δ => ∃ n, laps tc tb N n δ
theorem laps_mono {c : Expr} {tc : TDT} {tb : TDS} {body : List Stmt} (hc : DT X g c tc) (hb : DSs X g body tb) {D1 D2 : DEnds} (l : DEnds.Le D1 D2) : ∀ n δ, laps tc tb D1 n δ → laps tc tb D2 n δ
  | 0, δ, h => h.elim
  | n + 1, δ, h => hc.mono _ _ _ (fun b hbb => by
    cases b with
    | true => exact hb.mono { D1 with nx := laps tc tb D1 n, ct := laps tc tb D1 n, bk := D1.nx } { D2 with nx := laps tc tb D2 n, ct := laps tc tb D2 n, bk := D2.nx } _ ⟨fun δ h => laps_mono hc hb l n δ h, l.rt, l.nx, fun δ h => laps_mono hc hb l n δ h⟩ hbb
    | false => exact l.nx _ hbb) h
theorem ds_while {c : Expr} {tc : TDT} {tb : TDS} {body : List Stmt} (z : Cs X g EX j) (hc : DT X g c tc) (hb : DSs X g body tb) : DS X g (.While c body [] pos) (dWhile tc tb) := by
  refine ⟨PS.weak (ps_while z.pass hc.pt hb.pss) fun N σ H ⟨A, δ, ok, n, h⟩ => ?_, fun D1 D2 δ l ⟨n, h⟩ => ⟨n, laps_mono hc hb l n δ h⟩⟩
  refine ⟨fun n σ' H' => ∃ A' δ', Ok g A' δ' σ' H' ∧ Later g A H A' H' ∧ laps tc tb (PostS g A H N) n δ', ⟨n, A, δ, ok, Later.refl, h⟩, fun m σ' H' ⟨A', δ', ok', l', q⟩ => ?_⟩
  cases m with
  | zero => exact q.elim
  | succ m =>
    refine ⟨A', δ', ok', hc.mono _ _ _ (fun b hbb H1 e1 j1 => ?_) q⟩
    have ok1 := ok'.step e1 j1
    have l1 := later_of ok' e1
    cases b with
    | true =>
      refine ⟨fun σ2 H2 => ∃ A2 δ2, Ok g A2 δ2 σ2 H2 ∧ Later g A H A2 H2 ∧ laps tc tb (PostS g A H N) m δ2, fun σ2 H2 w => ⟨m, Nat.lt_succ_self m, w⟩, A', δ', ok1, hb.mono { PostS g A H N with nx := laps tc tb (PostS g A H N) m, ct := laps tc tb (PostS g A H N) m, bk := (PostS g A H N).nx } _ _ ⟨fun δ3 h σ3 A3 H3 ok3 l3 => ⟨A3, δ3, ok3, (l'.trans l1).trans l3, h⟩, fun d h => h, fun δ3 h σ3 A3 H3 ok3 l3 => h σ3 A3 H3 ok3 ((l'.trans l1).trans l3), fun δ3 h σ3 A3 H3 ok3 l3 => ⟨A3, δ3, ok3, (l'.trans l1).trans l3, h⟩⟩ hbb⟩
    | false => exact hbb σ' A' H1 ok1 (l'.trans l1)
end
end DL

set_option Elab.async false
set_option linter.all false
set_option maxRecDepth 100000
set_option maxHeartbeats 4000000
/-! DL7: a def by its body; errors made and raised. -/
namespace DL
open PySem PySem.Spec PyProof.Rows L2

def startD (N : List Str) (ds : List D) : List Slot := ds.map .val ++ List.replicate (N.length - ds.length) .un
section
variable {g : Gh} {H : Hp}
theorem slots_un {c : Cn} {Fb : Addr → Prop} : ∀ n : Nat, Slots c Fb H [] (List.replicate n .un) (List.replicate n none)
  | 0 => .nil
  | n + 1 => .un (slots_un n)
theorem slots_start {c : Cn} {Fb : Addr → Prop} (n : Nat) : ∀ {vs : List V} {ds : List D}, Reps c Fb H vs ds → Slots c Fb H [] (ds.map .val ++ List.replicate n .un) (vs.map some ++ List.replicate n none)
  | _, _, .nil => slots_un n
  | _, _, .cons r rs => .val r (slots_start n rs)
end
/-- the context of a def's body -/
abbrev cxD (P : Program) (w : World) (K : PySem.W.Frag) (mg : Str → Option Value) (base : Heap) (N : List Str) (x : Str) (st : Stmt) (f : Addr) (cdv : Value) (A : Around) (outer : List Env) (s : Shared) (H : Hp) (E : XK) : Cx :=
  cxOf (L2N.CX P w) P w K mg base N x (defScope st) f cdv A outer s H E
theorem def_mk {P : Program} {w : World} {K : PySem.W.Frag} {mg : Str → Option Value} {base : Heap} {T : List (Addr × Str)} {k : Nat} {x : Str} {st : Stmt} {f : Addr} {fd : FuncData} {N ps : List Str} {S : Spec}
    (F : Fun K x x st f fd) (hm : mg x = some (.ref f)) (Sc : FnScope N ps (defScope st)) (bd : Binds K fd ps []) (sm : SMono S) (len : ∀ ds Kk E, S ds Kk E → ds.length = ps.length)
    (body : ∀ (cdv : Value) (A : Around) (outer : List Env) (s : Shared) (H : Hp) (E : XK) (EE : Exc → Prop) (g : Gh), fd.code = cdv → g.K = K → g.mg = mg → g.T = T → Cs (cxD P w K mg base N x st f cdv A outer s H E) g (fun _ => EE) k →
      ∃ t, DSs (cxD P w K mg base N x st f cdv A outer s H E) g (defBody st) t ∧ ∀ ds (Kk : D → Prop), S ds Kk EE → t { nx := fun _ => Kk .non, rt := Kk } (startD N ds)) : Def P w K mg base T (k + 1) x S := by
  refine ⟨⟨f, fd, ps, hm, F.kp, bd, ?_⟩, sm⟩
  refine fnG_of F Sc (fun vs H Q E h => ?_) fun cdv A outer s H vs Q E hcd hr hsp => ?_
  · obtain ⟨pen, F', ds, _, _, _, rs, hS⟩ := h
    rw [rs.length]
    exact len _ _ _ hS
  · obtain ⟨pen, F', ds, j, fw, hfd, rs, hS⟩ := hsp
    let g : Gh := { K := K, mg := mg, pen := pen, T := T, F := F', H0 := H, V := (⟨K, mg, pen, T⟩ : Cn).W }
    let EE : Exc → Prop := fun x => ∀ cls dx H', J g.toCn H' → Ext g.V H H' → RepX g.toCn F' H' cls dx x → E cls dx H'
    have z : Cs (cxD P w K mg base N x st f cdv A outer s H E) g (fun _ => EE) k :=
      ⟨⟨⟨rfl, rfl, hr.r.units, hr.gd, Sc.nd⟩, hr, rfl, L2N.Takes.imp (L2N.takes_of rfl rfl rfl rfl) (fun cls d σ H' ⟨A', δ', x', ok', rx, hx⟩ => hx cls d H' ok'.J ok'.ext (rx.anti fun b hb => .inl hb))⟩, passes_of rfl, rfl, rfl, rfl⟩
    obtain ⟨t, ht, hq⟩ := body cdv A outer s H E EE g hcd rfl rfl rfl z
    refine ⟨_, ht.pss, [], startD N ds, ?_, ?_⟩
    · refine ⟨j.cellsAt, j.jd, fun _ h => h, Ext.refl _ _, fw, hfd, (fun b hb => by cases hb), (fun b hb => by cases hb), [], List.nodup_nil, (fun b hb => by cases hb), ?_⟩
      unfold startD L2.start
      rw [rs.length]
      exact slots_start _ (rs.anti fun b hb => .inl (hb.elim id fun z => by cases z))
    · refine ht.mono _ _ _ ⟨fun δ h σ' A' H' ok' l' => ?_, fun d h v H' j' e' r' => ?_, fun δ h => (show False from h).elim, fun δ h => (show False from h).elim⟩ (hq ds _ hS)
      · exact h .non H' ok'.J ok'.ext .non
      · exact h v H' j' e' r'

/-! ### errors with fields -/
/-- __init__(self, f1, ..): self.f1 = f1; .. -/
def spInit (K : PySem.W.Frag) (C : Addr) (fs : List Str) : Sp := fun vs H Q _ => ∃ (a : Addr) (ys : List V), vs = .ref a :: ys ∧ ys.length = fs.length ∧ H a = some (exo a C none) ∧
  ∀ (d : Addr) (H' : Hp) (l : List (Str × V)), H d = none → H' a = some (exo a C (some d)) → H' d = some (exd d l) → d ≠ a → (∀ b, b ≠ a → b ≠ d → H' b = H b) → (∀ f y, (fs.zip ys).lookup f = some y → l.lookup f = some y) → Q .non H'
/-- an error's class: its facts, its __init__'s promise -/
structure XCls (P : Program) (w : World) (K : PySem.W.Frag) (mg : Str → Option Value) (base : Heap) (x : Str) (fs : List Str) : Prop where
  ex : ∃ C fI fd ps, mg x = some (.ref C) ∧ OexC K C ∧ PySem.W.findIn K (.ref C) "__init__" = some (some (.ref fI)) ∧ PySem.W.typeIn K (.ref fI) = some (.type "function") ∧ Binds K fd ps [] ∧ FnOk P w K mg base CX0 1 fI fd ps (spInit K C fs)
  ne : fs ≠ []
  nd : fs.Nodup

section
variable {X : Cx}
/-- C(e, ..) for an error class with an __init__ of its own -/
theorem pmkN_oex {x : Str} {e : Expr} {es : List Expr} {ta : TA} {p pos : Pos} {C fI : Addr} {k : Nat} {fd : FuncData} {ps : List Str} {sp : Sp} (T : OexC X.K C) (iC : PySem.W.findIn X.K (.ref C) "__init__" = some (some (.ref fI))) (tI : PySem.W.typeIn X.K (.ref fI) = some (.type "function"))
    (F1 : FnOk X.prog X.w X.K X.mg X.base CX0 k fI fd ps sp) (hr : Room (k + 1) X.A) (hb : Binds X.K fd ps []) (hg : Gl X x) (hm : X.mg x = some (.ref C)) (ha : PA X (e :: es) ta)
    (hdb : (x == ("__debug__" : Str)) = false := by decide) (he : starEach (e :: es) X.env = (false, eval e X.env) :: starEach es X.env := by rfl) (hpl : (backTo pos (starEach es X.env)).any (·.1) = false := by rfl) :
    L2N.PMk X (.Call (.Name x p) (e :: es) [] pos) (tMkO C sp [] ta) := by
  intro pins s σ H Q I h
  obtain ⟨nm, q, N, bs, bm, sn, sub, ab, col, dd, k0, k1, k2, k3, k5, hC, hbm⟩ := T.cls
  refine wpAny_Call_Name_kw (ld_glob I hg hm ?_ hdb)
  refine PySem.W.callWith_K (h₀ := X.base) I.ok.mod.kin T.kC (thn (ha.run pos pins s σ H _ I h) fun us s1 ⟨vs, H1, I1, r1, hz, q1⟩ => ⟨I1.kIn, ?_⟩) he hpl
  show wpAny _ _ (call (.ref C) us) _ _ _
  obtain ⟨hp, gs, dr, tk, os⟩ := s1
  have hsz : hp.objs.size ≤ hp.objs.size + 1 := Nat.le_succ _
  have hq := q1 (hp.objs.size + 1) (I1.hok.fresh hsz)
  rw [List.append_nil] at hq
  have grow : ∀ b o, hp.get? b = some o → ((hp.push (PySem.W.kdv_tup us)).push (PySem.HandSPX.excO C hp.objs.size)).get? b = some o := fun b o e => Heap.get?_push_of_some _ (Heap.get?_push_of_some _ e)
  have there : ((hp.push (PySem.W.kdv_tup us)).push (PySem.HandSPX.excO C hp.objs.size)).get? (hp.objs.size + 1) = some (PySem.HandSPX.excO C hp.objs.size) := by heap_get
  have I2 : Inv X pins σ (upd H1 (hp.objs.size + 1) (exo (hp.objs.size + 1) C none)) ⟨(hp.push (PySem.W.kdv_tup us)).push (PySem.HandSPX.excO C hp.objs.size), gs, dr, tk, os⟩ :=
    I1.laid (t' := tk) (a := hp.objs.size + 1) (o := exo (hp.objs.size + 1) C none) (h' := (hp.push (PySem.W.kdv_tup us)).push (PySem.HandSPX.excO C hp.objs.size)) grow hsz (exo_ok there)
  have r2 : Vals (V.ref (hp.objs.size + 1) :: vs) (Value.ref (hp.objs.size + 1) :: us) := .cons rfl r1
  have hl : (Value.ref (hp.objs.size + 1) :: us ++ []).length = ps.length := by
    have e := r2.length
    rw [F1.len _ _ _ _ hq] at e
    rw [List.append_nil]
    exact e.symm
  have hus : us.length ≤ sizeLine := by
    rw [← Paired.length r1, sizeLine_eq]
    omega
  have b2 := hb _ (Value.ref (hp.objs.size + 1) :: us) I2.kIn hl
  rw [List.append_nil] at b2
  refine wpAny_call (PySem.HandSPX.call_own F.excBase_ValueError (fun Y => PySem.HandSPX.refsVE_contains Y bm hbm) (I1.kIn _ _ hC) (PySem.W.looks_findIn I1.kIn iC) (fun self => PySem.W.bind_fn I1.kIn self tI) hus
    (codeAny_mono (F1.run _ X.stack _ _ ⟨Value.ref (hp.objs.size + 1) :: us, []⟩ (Value.ref (hp.objs.size + 1) :: us) _ _ (fun _ _ _ => False) (hr.make C us []) (I2.env0.make C us []) b2 r2 hq) fun r s' hq' => ?_))
  cases r with
  | error er => exact (show False from hq').elim
  | ok fl =>
    cases fl with
    | ret u =>
      obtain ⟨v, H2, os2, bare2, un2, hok2, rv, ev, d, fs, ea, ed, hd1, q2⟩ := hq'
      subst ev
      obtain ⟨h2, g2, d2, t2, os'⟩ := s'
      obtain ⟨t0, G, J, kG, ge, hoe, na⟩ := mk_end0 (d2 := d2) (t2 := t2) I1 hsz grow un2 hok2 os2 bare2 ea ed hd1
      exact ⟨rv, ⟨hp.objs.size + 1, _, _, ⟨G, g2, d2, t2, os'⟩, _, .ref C, some d, rfl, J, kG, ge, hoe, ⟨rfl, rfl, fun vs hv => by cases hv; rfl⟩, rfl, rfl, na, rfl, bare2, raises_own T.exC T.tyC, q2⟩⟩
    | _ => exact False.elim hq'
variable {g : Gh} {EX : List Slot → Exc → Prop} {j k : Nat} {e : Expr} {es : List Expr} {u : TDA} {pos p pos2 : Pos}
def dRaise (x : Str) (fs : List Str) (EX : List Slot → Exc → Prop) (u : TDA) : TDS := fun N δ => u δ fun ds => ds.length = fs.length ∧ ds.length ≤ 1000 ∧ EX δ ⟨x, fs.zip ds⟩
theorem lookup_putG {α : Type} (f g : Str) (y : α) (fs : List (Str × α)) : ((f, y) :: fs).lookup g = if g = f then some y else fs.lookup g := by
  by_cases h : g = f
  · subst h
    simp [List.lookup]
  · have e : (g == f) = false := by simpa using h
    rw [if_neg h]
    simp [List.lookup, e]
theorem lookup_reps {c : Cn} {F : Addr → Prop} {H : Hp} {f : Str} {y : D} : ∀ {fs : List Str} {vs : List V} {ds : List D}, Reps c F H vs ds → (fs.zip ds).lookup f = some y → ∃ v, (fs.zip vs).lookup f = some v ∧ Rep c F H v y
  | [], _, _, _, h => by simp at h
  | _ :: _, _, _, .nil, h => by simp at h
  | f' :: fs, v :: vs, d :: ds, .cons r rs, h => by
    rw [List.zip_cons_cons, lookup_putG] at h ⊢
    by_cases q : f = f'
    · rw [if_pos q] at h ⊢
      cases h
      exact ⟨v, rfl, r⟩
    · rw [if_neg q] at h ⊢
      exact lookup_reps rs h
theorem ds_raise {x : Str} {fs : List Str} (z : Cz X g EX j) (c : XCls X.prog X.w X.K X.mg X.base x fs) (hj : 2 ≤ j) (hg : Gl X x) (ha : DA X g (e :: es) u)
    (hdb : (x == ("__debug__" : Str)) = false := by decide) (he : starEach (e :: es) X.env = (false, eval e X.env) :: starEach es X.env := by rfl) (hpl : (backTo pos (starEach es X.env)).any (·.1) = false := by rfl) :
    DS X g (.Raise (some (.Call (.Name x p) (e :: es) [] pos)) none pos2) (dRaise x fs EX u) := by
  obtain ⟨C, fI, fd, ps, hm, T, iC, tI, hb, F1⟩ := c.ex
  refine ⟨PS.weak (L2N.ps_raise z.calm z.tk (pmkN_oex T iC tI F1 (z.room.r.mono hj) hb hg hm ha.pa hdb he hpl)) fun N σ H ⟨A, δ, ok, h⟩ => ?_, fun D1 D2 δ l h => h⟩
  refine ⟨A, δ, ok, ha.mono _ _ _ (fun ds ⟨h1, h2, h3⟩ vs H1 e1 j1 r1 => ⟨by rw [r1.length]; exact h2, fun a hna => ?_⟩) h⟩
  have ok1 := ok.step e1 j1
  rw [List.append_nil]
  refine ⟨a, vs, rfl, by rw [r1.length]; exact h1, upd_same, fun d H' l hd ea ed nda keep hl => ⟨rfl, d, l, ea, ed, ?_, ?_⟩⟩
  · rw [upd_ne nda] at hd
    exact hd
  · have hd1 : H1 d = none := by rw [upd_ne nda] at hd; exact hd
    have eH : ∀ b, b ≠ d → (upd (del H' a) d (.xd l)) b = H1 b := fun b hb => by
      rw [upd_ne hb]
      by_cases q : b = a
      · rw [q, del_same, hna]
      · rw [del_ne q, keep b q hb, upd_ne q]
    have eE : Ext g.V H1 (upd (del H' a) d (.xd l)) := Ext.of fun b o q => by
      have nb : b ≠ d := ne_of_none q hd1
      rw [eH b nb]; exact q
    have j2 : JD g.toCn (upd (del H' a) d (.xd l)) := by
      refine ⟨fun b l' q => ?_, LamX.Tabs.ext ok1.jd.tabs fun b o q => by rw [eH b (ne_of_none q hd1)]; exact q⟩
      obtain ⟨i1, i2, i3, i4, a1, a2, a3⟩ := ok1.jd.pen b l' q
      exact ⟨i1, i2, i3, i4, a1, a2, by rw [eH b (ne_of_none a3 hd1)]; exact a3⟩
    refine ⟨A, δ, ⟨x, fs.zip ds⟩, ok1.step eE j2, ⟨C, rfl, by rw [z.hmg]; exact hm, .inr ⟨d, l, rfl, upd_same, ok1.fresh hd1, fun f y q => ?_, ?_⟩⟩, h3⟩
    · obtain ⟨v, q1, q2⟩ := lookup_reps r1 q
      exact ⟨v, hl f v q1, q2.ext (eE.mono fun b hb => .inl (ok.fW b hb))⟩
    · intro q
      have q2 := congrArg List.length q
      rw [List.length_zip, h1, Nat.min_self] at q2
      exact c.ne (List.eq_nil_of_length_eq_zero q2)

/-! ### errors without fields -/
structure XCls0 (K : PySem.W.Frag) (mg : Str → Option Value) (x : Str) : Prop where
  ex : ∃ C, mg x = some (.ref C) ∧ PySem.W.excIn K C [.type "ValueError", .type "Exception", .type "BaseException", .type "object"] "ValueError.__new__" = true ∧ PySem.W.keepIn K (.ref C) = true ∧ PySem.W.subIn K (.ref C) (.type "BaseException") = some true ∧ PySem.W.typeIn K (.ref C) = some (.type "type")
theorem pmkN_own0 {x : Str} {C : Addr} {bmB : List Value} {B newId initId : String} (F : ExcBaseFacts B newId initId bmB) (q : PySem.W.excIn X.K C bmB newId = true) (gC : X.mg x = some (.ref C)) (kC : PySem.W.keepIn X.K (.ref C) = true) (r : Raises X (.ref C)) (hg : Gl X x)
    (hdb : (x == ("__debug__" : Str)) = false := by decide) : L2N.PMk X (.Call (.Name x p) [] [] pos) (fun _ H Q => Q (.ref C) none H) := by
  intro pins s σ H Q I h
  refine wpAny_Call_Name_kw (ld_glob I hg gC ?_ hdb)
  refine PySem.W.callWith_K0 I.kIn kC ?_
  obtain ⟨bm, N, nm, qn, bs, hdct, sn, sub, ab, col, dd, k0, k1, k2, k3, k5, mN, hC, hN, hni, T⟩ := exc_obj I.kIn q
  refine wpAny_call_exc_subT F T hC hN hni (fun h' e hm => ?_) (by show 0 ≤ sizeLine; omega)
  exact L2N.mk_of I hm r h (I.hok.gone hm.new)
def dRaise0 (x : Str) (EX : List Slot → Exc → Prop) : TDS := fun N δ => EX δ ⟨x, []⟩
theorem ds_raise0 {x : Str} (z : Cz X g EX j) (c : XCls0 X.K X.mg x) (hg : Gl X x) (hdb : (x == ("__debug__" : Str)) = false := by decide) : DS X g (.Raise (some (.Call (.Name x p) [] [] pos)) none pos2) (dRaise0 x EX) := by
  obtain ⟨C, hm, q, hk, hb, ht⟩ := c.ex
  refine ⟨PS.weak (L2N.ps_raise z.calm z.tk (pmkN_own0 PySem.F.excBase_ValueError q hm hk (raises_own hb ht) hg hdb)) fun N σ H ⟨A, δ, ok, h⟩ => ?_, fun D1 D2 δ l h => h⟩
  exact ⟨A, δ, ⟨x, []⟩, ok, ⟨C, rfl, by rw [z.hmg]; exact hm, .inl ⟨rfl, rfl⟩⟩, h⟩
end
end DL

set_option Elab.async false
set_option linter.all false
set_option maxRecDepth 100000
set_option maxHeartbeats 8000000
/-! DL8: the source of draws. -/
namespace DL
open PySem PySem.Spec PyProof.Rows L2

/-- promises by patterns: the arguments are enc a of some a with pre, the result is told by post, what is raised by exc -/
def SX {α : Type} (enc : α → List D) (pre : α → Prop) (post : α → D → Prop) (exc : α → Exc → Prop) : Spec := fun ds K E => ∃ a, ds = enc a ∧ pre a ∧ (∀ d, post a d → K d) ∧ ∀ x, exc a x → E x
theorem sx_mono {α : Type} {enc : α → List D} {pre : α → Prop} {post : α → D → Prop} {exc : α → Exc → Prop} : SMono (SX enc pre post exc) := fun ds K K' E E' hk he ⟨a, e, p, h1, h2⟩ => ⟨a, e, p, fun d hd => hk _ (h1 d hd), fun x hx => he _ (h2 x hx)⟩
theorem sx_len {α : Type} {enc : α → List D} {pre : α → Prop} {post : α → D → Prop} {exc : α → Exc → Prop} {n : Nat} (h : ∀ a, (enc a).length = n) : ∀ ds K E, SX enc pre post exc ds K E → ds.length = n := fun ds K E ⟨a, e, _⟩ => by rw [e]; exact h a
/-- .. nothing is raised, the result is one value -/
abbrev SF {α : Type} (enc : α → List D) (pre : α → Prop) (f : α → D) : Spec := SX enc pre (fun a d => d = f a) fun _ _ => False

def specDraw : Spec := SX (α := Int) (fun m => [.pen, .int m]) (fun m => 0 < m ∧ m < 1000000000) (fun m d => ∃ r, 0 ≤ r ∧ r < m ∧ d = .int r) fun _ _ => False

abbrev penKvs (l : Addr) (a b c d : Int) : List (Key × V) := [(Sum.inr ("cells" : Str), V.ref l), (Sum.inr ("at" : Str), V.int a), (Sum.inr ("digits" : Str), V.int b), (Sum.inr ("count" : Str), V.int c), (Sum.inr ("fold" : Str), V.int d)]
theorem k12 : ¬ (Sum.inr ("cells" : Str) : Key) = Sum.inr ("at" : Str) := by decide +kernel
theorem k13 : ¬ (Sum.inr ("cells" : Str) : Key) = Sum.inr ("digits" : Str) := by decide +kernel
theorem k14 : ¬ (Sum.inr ("cells" : Str) : Key) = Sum.inr ("count" : Str) := by decide +kernel
theorem k15 : ¬ (Sum.inr ("cells" : Str) : Key) = Sum.inr ("fold" : Str) := by decide +kernel
theorem k23 : ¬ (Sum.inr ("at" : Str) : Key) = Sum.inr ("digits" : Str) := by decide +kernel
theorem k24 : ¬ (Sum.inr ("at" : Str) : Key) = Sum.inr ("count" : Str) := by decide +kernel
theorem k25 : ¬ (Sum.inr ("at" : Str) : Key) = Sum.inr ("fold" : Str) := by decide +kernel
theorem k34 : ¬ (Sum.inr ("digits" : Str) : Key) = Sum.inr ("count" : Str) := by decide +kernel
theorem k35 : ¬ (Sum.inr ("digits" : Str) : Key) = Sum.inr ("fold" : Str) := by decide +kernel
theorem k45 : ¬ (Sum.inr ("count" : Str) : Key) = Sum.inr ("fold" : Str) := by decide +kernel
theorem pv1 {l a b c d} : valV (penKvs l a b c d) (Sum.inr ("cells" : Str)) = some (V.ref l) := valV_pos rfl
theorem pv2 {l a b c d} : valV (penKvs l a b c d) (Sum.inr ("at" : Str)) = some (V.int a) := (valV_neg k12).trans (valV_pos rfl)
theorem pv3 {l a b c d} : valV (penKvs l a b c d) (Sum.inr ("digits" : Str)) = some (V.int b) := (valV_neg k13).trans ((valV_neg k23).trans (valV_pos rfl))
theorem pv4 {l a b c d} : valV (penKvs l a b c d) (Sum.inr ("count" : Str)) = some (V.int c) := (valV_neg k14).trans ((valV_neg k24).trans ((valV_neg k34).trans (valV_pos rfl)))
theorem pv5 {l a b c d} : valV (penKvs l a b c d) (Sum.inr ("fold" : Str)) = some (V.int d) := (valV_neg k15).trans ((valV_neg k25).trans ((valV_neg k35).trans ((valV_neg k45).trans (valV_pos rfl))))
theorem pp2 {l a b c d x} : putK (penKvs l a b c d) (Sum.inr ("at" : Str)) (V.int x) = penKvs l x b c d := by
  unfold putK
  rw [if_pos (by simp)]
  simp only [List.map_cons, List.map_nil]
  rw [if_neg k12, if_pos trivial, if_neg (Ne.symm k23), if_neg (Ne.symm k24), if_neg (Ne.symm k25)]

/-! ### the source from within: its state, the names that hold ints -/
structure PSt where
  pt : Int
  dg : Int
  ct : Int
  fo : Int
inductive PR where
  | nx (p : PSt) (loc : List (Option Int))
  | rt (p : PSt) (i : Int)
abbrev TP := PSt → List (Option Int) → Option Int
abbrev TPT := PSt → List (Option Int) → Option Bool
abbrev TPS := PSt → List (Option Int) → Option PR
def hpP (H0 : Hp) (d l : Addr) (p : PSt) : Hp := upd H0 d (.dK (penKvs l p.pt p.dg p.ct p.fo))
def sgP (d : Addr) (loc : List (Option Int)) : St := some (.ref d) :: loc.map (Option.map V.int)
theorem hpP_put {H0 : Hp} {d l : Addr} {p : PSt} {o : HO} : upd (hpP H0 d l p) d o = upd H0 d o := by
  funext b
  unfold hpP upd
  by_cases h : b = d <;> simp [h]
section
variable {X : Cx} {H0 : Hp} {d l : Addr} {ns : List Int} {a b : Expr} {ta tb : TP} {pos : Pos}
def LP (H0 : Hp) (d l : Addr) (t : TP) : TE := fun σ H Q => ∃ p loc i, σ = sgP d loc ∧ H = hpP H0 d l p ∧ t p loc = some i ∧ Q (.int i) H
def LPT (H0 : Hp) (d l : Addr) (t : TPT) : TT := fun σ H Q => ∃ p loc i, σ = sgP d loc ∧ H = hpP H0 d l p ∧ t p loc = some i ∧ Q i H
def PRends (H0 : Hp) (d l : Addr) (D : Ends) : PR → Prop
  | .nx p loc => D.nx (sgP d loc) (hpP H0 d l p)
  | .rt p i => D.rt (.int i) (hpP H0 d l p)
def LPS (H0 : Hp) (d l : Addr) (t : TPS) : TS := fun D σ H => ∃ p loc r, σ = sgP d loc ∧ H = hpP H0 d l p ∧ t p loc = some r ∧ PRends H0 d l D r
theorem sgP_get {loc : List (Option Int)} {i : Nat} {n : Int} (h : loc[i]? = some (some n)) : (sgP d loc)[i + 1]? = some (some (.int n)) := by
  unfold sgP
  rw [List.getElem?_cons_succ, List.getElem?_map, h]
  rfl
def vP (i : Nat) : TP := fun _ loc => (loc[i]?).join
theorem p_var (i : Nat) {x : Str} (hN : X.N[i + 1]? = some x := by rfl) (hv : Vis X.env.scope x := by first | exact Or.inl rfl | exact Or.inr (Or.inl rfl) | exact Or.inr (Or.inr rfl)) (hd : (x == ("__debug__" : Str)) = false := by decide)
    (hcd : (x == ("__classdict__" : Str)) = false := by decide) : PE X (.Name x pos) (LP H0 d l (vP i)) := by
  refine PE.weak (pe_var hN hv hd hcd) fun σ H Q ⟨p, loc, n, e1, e2, e3, q⟩ => ?_
  unfold vP at e3
  have e4 : loc[i]? = some (some n) := by
    cases h : loc[i]? with
    | none => rw [h] at e3; cases e3
    | some o => rw [h] at e3; cases o with
      | none => cases e3
      | some m => cases e3; rfl
  exact ⟨_, by rw [e1]; exact sgP_get e4, q⟩
def cP (i : Int) : TP := fun _ _ => some i
theorem p_int {i k} : PE X (.Constant (.int i) k pos) (LP H0 d l (cP i)) := PE.weak pe_int fun σ H Q ⟨p, loc, n, e1, e2, e3, q⟩ => by
  cases e3; exact q
def oP (c : Int → Int → Bool) (f : Int → Int → Int) (ta tb : TP) : TP := fun p loc => (ta p loc).bind fun x => (tb p loc).bind fun y => if c x y = true then some (f x y) else none
theorem oP_some {c : Int → Int → Bool} {f : Int → Int → Int} {p : PSt} {loc : List (Option Int)} {n : Int} (h : oP c f ta tb p loc = some n) : ∃ x y, ta p loc = some x ∧ tb p loc = some y ∧ c x y = true ∧ f x y = n := by
  unfold oP at h
  rw [Option.bind_eq_some_iff] at h
  obtain ⟨x, e1, h⟩ := h
  rw [Option.bind_eq_some_iff] at h
  obtain ⟨y, e2, h⟩ := h
  by_cases e : c x y = true
  · rw [if_pos e] at h
    exact ⟨x, y, e1, e2, e, Option.some.inj h⟩
  · rw [if_neg e] at h; cases h
theorem p_op {op : Operator} {C : Int → Int → Prop} {f : Int → Int → Int} (ho : OpR X (binaryOp op) (rI C fun i j => .int (f i j))) (c : Int → Int → Bool) (hc : ∀ i j, c i j = true → C i j) (ha : PE X a (LP H0 d l ta)) (hb : PE X b (LP H0 d l tb)) :
    PE X (.BinOp a op b pos) (LP H0 d l (oP c f ta tb)) := PE.weak (pe_op ho ha hb) fun σ H Q ⟨p, loc, n, e1, e2, e3, q⟩ => by
  obtain ⟨x, y, a1, a2, a3, a4⟩ := oP_some e3
  subst a4
  exact ⟨p, loc, x, e1, e2, a1, p, loc, y, e1, e2, a2, x, y, rfl, rfl, hc x y a3, q⟩
theorem p_op0 {op : Operator} {f : Int → Int → Int} (ho : OpR X (binaryOp op) (rI0 fun i j => .int (f i j))) (ha : PE X a (LP H0 d l ta)) (hb : PE X b (LP H0 d l tb)) :
    PE X (.BinOp a op b pos) (LP H0 d l (oP (fun _ _ => true) f ta tb)) := PE.weak (pe_op ho ha hb) fun σ H Q ⟨p, loc, n, e1, e2, e3, q⟩ => by
  obtain ⟨x, y, a1, a2, a3, a4⟩ := oP_some e3
  subst a4
  exact ⟨p, loc, x, e1, e2, a1, p, loc, y, e1, e2, a2, x, y, rfl, rfl, q⟩
def shortB (i : Int) : Bool := decide (i.natAbs < 2 ^ 63)
abbrev addP (ta tb : TP) : TP := oP (fun _ _ => true) (fun i j => i + j) ta tb
abbrev subP (ta tb : TP) : TP := oP (fun _ _ => true) (fun i j => i - j) ta tb
abbrev mulP (ta tb : TP) : TP := oP (fun i j => shortB i || shortB j) (fun i j => i * j) ta tb
abbrev modP (ta tb : TP) : TP := oP (fun _ j => decide (0 < j)) (fun i j => i % j) ta tb
abbrev divP (ta tb : TP) : TP := oP (fun _ j => decide (0 < j) && shortB j) (fun i j => i / j) ta tb
abbrev powP (ta tb : TP) : TP := oP (fun i j => decide (0 ≤ j) && decide (j ≤ 1000) && shortB i) (fun i j => i ^ j.toNat) ta tb
theorem p_add (ha : PE X a (LP H0 d l ta)) (hb : PE X b (LP H0 d l tb)) : PE X (.BinOp a .Add b pos) (LP H0 d l (addP ta tb)) := p_op0 op_add ha hb
theorem p_sub (ha : PE X a (LP H0 d l ta)) (hb : PE X b (LP H0 d l tb)) : PE X (.BinOp a .Sub b pos) (LP H0 d l (subP ta tb)) := p_op0 op_sub ha hb
theorem p_mul (ha : PE X a (LP H0 d l ta)) (hb : PE X b (LP H0 d l tb)) : PE X (.BinOp a .Mult b pos) (LP H0 d l (mulP ta tb)) := p_op op_mulA _ (fun i j h => by
  rw [Bool.or_eq_true] at h
  exact h.elim (fun z => mul_l (of_decide_eq_true z)) fun z => mul_r (of_decide_eq_true z)) ha hb
theorem p_mod (ha : PE X a (LP H0 d l ta)) (hb : PE X b (LP H0 d l tb)) : PE X (.BinOp a .Mod b pos) (LP H0 d l (modP ta tb)) := p_op op_mod _ (fun i j h => of_decide_eq_true h) ha hb
theorem p_div (ha : PE X a (LP H0 d l ta)) (hb : PE X b (LP H0 d l tb)) : PE X (.BinOp a .FloorDiv b pos) (LP H0 d l (divP ta tb)) := p_op op_fdivW _ (fun i j h => by
  rw [Bool.and_eq_true] at h
  exact wide_div (of_decide_eq_true h.1) (of_decide_eq_true h.2) (by decide) (by decide)) ha hb
theorem p_pow (ha : PE X a (LP H0 d l ta)) (hb : PE X b (LP H0 d l tb)) : PE X (.BinOp a .Pow b pos) (LP H0 d l (powP ta tb)) := p_op op_pow _ (fun i j h => by
  rw [Bool.and_eq_true, Bool.and_eq_true] at h
  have h1 := of_decide_eq_true h.1.1
  have h2 := of_decide_eq_true h.1.2
  have h3 : i.natAbs < 2 ^ 63 := of_decide_eq_true h.2
  exact ⟨h1, by omega, by omega⟩) ha hb
/-- pen[key] -/
def gP (f : PSt → Int) : TP := fun p _ => some (f p)
theorem pen_at {p : PSt} : hpP H0 d l p d = some (.dK (penKvs l p.pt p.dg p.ct p.fo)) := by
  unfold hpP; exact upd_same
theorem p_get (hu : X.A.units + 1 < cLine) {x key : Str} {p1 p2 : Pos} {k} (f : PSt → Int) (hf : ∀ p : PSt, valV (penKvs l p.pt p.dg p.ct p.fo) (Sum.inr key) = some (V.int (f p))) (hN : X.N[0]? = some x := by rfl)
    (hv : Vis X.env.scope x := by first | exact Or.inl rfl | exact Or.inr (Or.inl rfl) | exact Or.inr (Or.inr rfl)) (hd : (x == ("__debug__" : Str)) = false := by decide) (hcd : (x == ("__classdict__" : Str)) = false := by decide) (hs : NoSl (.Constant (.str key) k p2) := by first | exact .inl rfl | (intro _ _; rfl) | rfl) :
    PE X (.Subscript (.Name x p1) (.Constant (.str key) k p2) pos) (LP H0 d l (gP f)) := by
  refine PE.weak (pe_dget hu (pe_var hN hv hd hcd) pe_str hs) fun σ H Q ⟨p, loc, n, e1, e2, e3, q⟩ => ?_
  cases e3
  refine ⟨.ref d, by rw [e1]; rfl, d, .int (f p), rfl, ?_, q⟩
  rw [e2, ← hf p]
  exact DGet.k (k := Sum.inr key) pen_at
end
end DL

set_option Elab.async false
set_option linter.all false
set_option maxRecDepth 100000
set_option maxHeartbeats 8000000
/-! DL9: the source from within: cells, tests, statements; what a draw gives. -/
namespace DL
open PySem PySem.Spec PyProof.Rows L2
section
variable {X : Cx} {H0 : Hp} {d l : Addr} {ns : List Int} {a b : Expr} {ta tb : TP} {pos : Pos}
/-- pen["cells"] -/
def LPC (H0 : Hp) (d l : Addr) : TE := fun σ H Q => ∃ p loc, σ = sgP d loc ∧ H = hpP H0 d l p ∧ Q (.ref l) H
theorem p_cells (hu : X.A.units + 1 < cLine) {x : Str} {p1 p2 : Pos} {k} (hN : X.N[0]? = some x := by rfl)
    (hv : Vis X.env.scope x := by first | exact Or.inl rfl | exact Or.inr (Or.inl rfl) | exact Or.inr (Or.inr rfl)) (hd : (x == ("__debug__" : Str)) = false := by decide) (hcd : (x == ("__classdict__" : Str)) = false := by decide) (hs : NoSl (.Constant (.str "cells") k p2) := by first | exact .inl rfl | (intro _ _; rfl) | rfl) :
    PE X (.Subscript (.Name x p1) (.Constant (.str "cells") k p2) pos) (LPC H0 d l) := by
  refine PE.weak (pe_dget hu (pe_var hN hv hd hcd) pe_str hs) fun σ H Q ⟨p, loc, e1, e2, q⟩ => ?_
  refine ⟨.ref d, by rw [e1]; rfl, d, .ref l, rfl, ?_, q⟩
  have h := DGet.k (k := Sum.inr ("cells" : Str)) (pen_at (H0 := H0) (d := d) (l := l) (p := p))
  rw [pv1] at h
  rw [e2]
  exact h
/-- the cells as they stand, whatever the source's dict holds -/
abbrev Cells (X : Cx) (H0 : Hp) (d l : Addr) (ns : List Int) : Prop := ∀ p, SqL X.K (hpP H0 d l p) l (ns.map V.int)
def lenP (ns : List Int) : TP := fun _ _ => some ns.length
theorem p_len {e : Expr} {p pos : Pos} (hq : Cells X H0 d l ns) (he : PE X e (LPC H0 d l)) (hg : Gl X "len") (hm : X.mg "len" = none) (hs : starEach (e :: []) X.env = (false, eval e X.env) :: starEach [] X.env := by rfl) :
    PE X (.Call (.Name "len" p) [e] [] pos) (LP H0 d l (lenP ns)) := by
  refine PE.weak (pe_callB call_len_seq hg hm (by rfl) (pa_cons he pa_nil hs) (he := hs)) fun σ H Q ⟨p, loc, n, e1, e2, e3, q⟩ => ?_
  cases e3
  refine ⟨p, loc, e1, e2, l, _, rfl, .inl (by rw [e2]; exact hq p), ?_⟩
  rw [List.length_map]; exact q
def ixP (ns : List Int) (t : TP) : TP := fun p loc => (t p loc).bind fun i => if 0 ≤ i then ns[i.toNat]? else none
theorem p_ix {e i : Expr} {ti : TP} (hq : Cells X H0 d l ns) (he : PE X e (LPC H0 d l)) (hi : PE X i (LP H0 d l ti)) (hs : PlainIx i := by intro _ _; rfl) : PE X (.Subscript e i pos) (LP H0 d l (ixP ns ti)) := by
  refine PE.weak (pe_ix ix_list he hi hs) fun σ H Q ⟨p, loc, n, e1, e2, e3, q⟩ => ?_
  unfold ixP at e3
  rw [Option.bind_eq_some_iff] at e3
  obtain ⟨i, a1, e3⟩ := e3
  split at e3
  · rename_i h0
    refine ⟨p, loc, e1, e2, p, loc, i, e1, e2, a1, l, _, i, .int n, rfl, rfl, by rw [e2]; exact hq p, ?_, q⟩
    have e : i = (i.toNat : Int) := (Int.toNat_of_nonneg h0).symm
    rw [e]
    exact atI_nat (by rw [List.getElem?_map, e3]; rfl)
  · cases e3
theorem p_int1 {e : Expr} {p pos : Pos} (he : PE X e (LP H0 d l ta)) (hg : Gl X "int") (hm : X.mg "int" = none) (hs : starEach (e :: []) X.env = (false, eval e X.env) :: starEach [] X.env := by rfl) :
    PE X (.Call (.Name "int" p) [e] [] pos) (LP H0 d l ta) := by
  refine PE.weak (pe_callTy call_int1 hg hm (by rfl) (pa_cons he pa_nil hs) (he := hs)) fun σ H Q ⟨p, loc, n, e1, e2, e3, q⟩ => ?_
  exact ⟨p, loc, n, e1, e2, e3, .inl ⟨n, rfl, q⟩⟩
/-! tests -/
def cmpP (f : Int → Int → Bool) (ta tb : TP) : TPT := fun p loc => (ta p loc).bind fun x => (tb p loc).map fun y => f x y
theorem q_cmp {op : CmpOp} {f : Int → Int → Bool} (ho : OpR X (compareOp op) (rI0 fun i j => .bl (f i j))) (ha : PE X a (LP H0 d l ta)) (hb : PE X b (LP H0 d l tb)) (hm : behindInMarks op b = false := by exact nomark _) :
    PT X (.Compare a [op] [b] pos) (LPT H0 d l (cmpP f ta tb)) := by
  refine PT.weak (pt_cmpR ho ha hb hm) fun σ H Q ⟨p, loc, c, e1, e2, e3, q⟩ => ?_
  unfold cmpP at e3
  rw [Option.bind_eq_some_iff] at e3
  obtain ⟨x, a1, e3⟩ := e3
  rw [Option.map_eq_some_iff] at e3
  obtain ⟨y, a2, e3⟩ := e3
  subst e3
  exact ⟨p, loc, x, e1, e2, a1, p, loc, y, e1, e2, a2, x, y, rfl, rfl, _, rfl, q⟩
def andP (t u : TPT) : TPT := fun p loc => (t p loc).bind fun c => if c = true then u p loc else some false
theorem q_and2 {tA tB : TPT} (ha : PT X a (LPT H0 d l tA)) (hb : PT X b (LPT H0 d l tB)) : PT X (.BoolOp .And [a, b] pos) (LPT H0 d l (andP tA tB)) := by
  refine PT.weak (pw_and ha (pw_and1 hb)).pt fun σ H Q ⟨p, loc, c, e1, e2, e3, q⟩ => ?_
  unfold andP at e3
  rw [Option.bind_eq_some_iff] at e3
  obtain ⟨x, a1, e3⟩ := e3
  refine ⟨p, loc, x, e1, e2, a1, ?_⟩
  cases x with
  | true => exact ⟨p, loc, c, e1, e2, e3, q⟩
  | false => cases e3; exact q
/-! statements -/
variable {t u : TPS} {st : Stmt} {rest : List Stmt}
def setP (i : Nat) (t : TP) : TPS := fun p loc => (t p loc).map fun n => .nx p (loc.set i (some n))
theorem r_set (i : Nat) {x : Str} {e : Expr} {pos' : Pos} (hN : X.N.Nodup) (he : PE X e (LP H0 d l ta)) (hi : X.N[i + 1]? = some x := by rfl) (hx : Loc X.env.scope x := by exact .inl rfl) (hs : swapsWith e (some (.Name x pos')) pos.line X.env = pure false := by rfl)
    (hf : X.fn x = true ∨ X.env.scope.names.lookup x = some .local := by first | exact .inl rfl | exact .inr rfl | assumption) : PS X (.Assign [.Name x pos'] e pos) (LPS H0 d l (setP i ta)) := by
  refine PS.weak (ps_set hN hi hx he hs hf) fun D σ H ⟨p, loc, r, e1, e2, e3, q⟩ => ?_
  unfold setP at e3
  rw [Option.map_eq_some_iff] at e3
  obtain ⟨n, a1, e3⟩ := e3
  subst e3
  refine ⟨p, loc, n, e1, e2, a1, ?_⟩
  have q : D.nx (sgP d (loc.set i (some n))) (hpP H0 d l p) := q
  rw [e1, e2]
  have e : (sgP d loc).set (i + 1) (some (.int n)) = sgP d (loc.set i (some n)) := by
    unfold sgP
    rw [List.set_cons_succ, List.map_set]
    rfl
  show D.nx ((sgP d loc).set (i + 1) (some (.int n))) _
  rw [e]; exact q
def putP (f : PSt → Int → PSt) (t : TP) : TPS := fun p loc => (t p loc).map fun n => .nx (f p n) loc
theorem r_put (hu : X.A.units + 1 < cLine) {x key : Str} {p1 p2 p3 : Pos} {k} {value : Expr} (f : PSt → Int → PSt) (hf : ∀ (p : PSt) (n : Int), putK (penKvs l p.pt p.dg p.ct p.fo) (Sum.inr key) (V.int n) = penKvs l (f p n).pt (f p n).dg (f p n).ct (f p n).fo) (he : PE X value (LP H0 d l ta))
    (hN : X.N[0]? = some x := by rfl) (hv : Vis X.env.scope x := by first | exact Or.inl rfl | exact Or.inr (Or.inl rfl) | exact Or.inr (Or.inr rfl)) (hd : (x == ("__debug__" : Str)) = false := by decide) (hcd : (x == ("__classdict__" : Str)) = false := by decide)
    (hs : swapsWith value (some (.Subscript (.Name x p1) (.Constant (.str key) k p2) p3)) pos.line X.env = pure false := by rfl) :
    PS X (.Assign [.Subscript (.Name x p1) (.Constant (.str key) k p2) p3] value pos) (LPS H0 d l (putP f ta)) := by
  refine PS.weak (ps_dput hu (pe_var hN hv hd hcd) pe_str he hs) fun D σ H ⟨p, loc, r, e1, e2, e3, q⟩ => ?_
  unfold putP at e3
  rw [Option.map_eq_some_iff] at e3
  obtain ⟨n, a1, e3⟩ := e3
  subst e3
  refine ⟨p, loc, n, e1, e2, a1, .ref d, by rw [e1]; rfl, d, hpP H0 d l (f p n), rfl, ?_, by rw [e1]; exact q⟩
  have h := DPut.k (k := Sum.inr key) (v := .int n) (pen_at (H0 := H0) (d := d) (l := l) (p := p)) (by rw [sizeLine_eq]; show 5 < _; decide)
  rw [hf, hpP_put] at h
  rw [e2]
  exact h
def ifP (c : TPT) (t u : TPS) : TPS := fun p loc => (c p loc).bind fun k => if k = true then t p loc else u p loc
theorem r_if {c : Expr} {x y : List Stmt} {tc : TPT} (hc : PT X c (LPT H0 d l tc)) (ha : PSs X x (LPS H0 d l t)) (hb : PSs X y (LPS H0 d l u)) : PS X (.If c x y pos) (LPS H0 d l (ifP tc t u)) := by
  refine PS.weak (ps_if hc ha hb) fun D σ H ⟨p, loc, r, e1, e2, e3, q⟩ => ?_
  unfold ifP at e3
  rw [Option.bind_eq_some_iff] at e3
  obtain ⟨k, a1, e3⟩ := e3
  refine ⟨p, loc, k, e1, e2, a1, ?_⟩
  cases k with
  | true => exact ⟨p, loc, r, e1, e2, e3, q⟩
  | false => exact ⟨p, loc, r, e1, e2, e3, q⟩
def retP (t : TP) : TPS := fun p loc => (t p loc).map fun n => .rt p n
theorem r_ret {e : Expr} (he : PE X e (LP H0 d l ta)) : PS X (.Return (some e) pos) (LPS H0 d l (retP ta)) := by
  refine PS.weak (ps_ret he) fun D σ H ⟨p, loc, r, e1, e2, e3, q⟩ => ?_
  unfold retP at e3
  rw [Option.map_eq_some_iff] at e3
  obtain ⟨n, a1, e3⟩ := e3
  subst e3
  refine ⟨p, loc, n, e1, e2, a1, ?_⟩
  rw [e2]; exact q
def nilP : TPS := fun p loc => some (.nx p loc)
def seqP (t u : TPS) : TPS := fun p loc => (t p loc).bind fun
  | .nx p' loc' => u p' loc'
  | r => some r
theorem rs_nil : PSs X [] (LPS H0 d l nilP) := PSs.weak pss_nil fun D σ H ⟨p, loc, r, e1, e2, e3, q⟩ => by
  cases e3
  rw [e1, e2]; exact q
theorem rs_cons (h1 : PS X st (LPS H0 d l t)) (h2 : PSs X rest (LPS H0 d l u)) : PSs X (st :: rest) (LPS H0 d l (seqP t u)) := by
  refine PSs.weak (pss_cons h1 h2) fun D σ H ⟨p, loc, r, e1, e2, e3, q⟩ => ?_
  unfold seqP at e3
  rw [Option.bind_eq_some_iff] at e3
  obtain ⟨r1, a1, e3⟩ := e3
  refine ⟨p, loc, r1, e1, e2, a1, ?_⟩
  cases r1 with
  | nx p' loc' => exact ⟨p', loc', r, rfl, rfl, e3, q⟩
  | rt p' n => cases e3; exact q
end
/-! ### a draw -/
abbrev gPt : TP := gP PSt.pt
abbrev gDg : TP := gP PSt.dg
abbrev gCt : TP := gP PSt.ct
abbrev gFo : TP := gP PSt.fo
abbrev uPt (p : PSt) (n : Int) : PSt := { p with pt := n }
abbrev uDg (p : PSt) (n : Int) : PSt := { p with dg := n }
abbrev uCt (p : PSt) (n : Int) : PSt := { p with ct := n }
abbrev uFo (p : PSt) (n : Int) : PSt := { p with fo := n }
theorem pp3 {l a b c d x} : putK (penKvs l a b c d) (Sum.inr ("digits" : Str)) (V.int x) = penKvs l a x c d := by
  unfold putK
  rw [if_pos (by simp)]
  simp only [List.map_cons, List.map_nil]
  rw [if_neg k13, if_neg k23, if_pos trivial, if_neg (Ne.symm k34), if_neg (Ne.symm k35)]
theorem pp4 {l a b c d x} : putK (penKvs l a b c d) (Sum.inr ("count" : Str)) (V.int x) = penKvs l a b x d := by
  unfold putK
  rw [if_pos (by simp)]
  simp only [List.map_cons, List.map_nil]
  rw [if_neg k14, if_neg k24, if_neg k34, if_pos trivial, if_neg (Ne.symm k45)]
theorem pp5 {l a b c d x} : putK (penKvs l a b c d) (Sum.inr ("fold" : Str)) (V.int x) = penKvs l a b c x := by
  unfold putK
  rw [if_pos (by simp)]
  simp only [List.map_cons, List.map_nil]
  rw [if_neg k15, if_neg k25, if_neg k35, if_neg k45, if_pos trivial]
/-- names: many, cell, digit, blend -/
def drawP (ns : List Int) : TPS :=
  seqP (putP uCt (addP gCt (cP 1))) (seqP (ifP (andP (cmpP (fun i j => decide (i = j)) gDg (cP 0)) (cmpP (fun i j => decide (i < j)) gPt (lenP ns)))
    (seqP (setP 1 (ixP ns gPt)) (seqP (putP uPt (addP gPt (cP 1))) (seqP (ifP (cmpP (fun i j => decide (j ≤ i)) (vP 1) (powP (cP 10) (cP 18)))
      (seqP (putP uDg (subP (vP 1) (powP (cP 10) (cP 18)))) nilP) (seqP (putP uFo (modP (addP (mulP gFo (cP 69069)) (vP 1)) (cP 2147483587))) nilP)) nilP))) nilP)
   (seqP (ifP (cmpP (fun i j => decide (j < i)) gDg (cP 0)) (seqP (setP 2 (modP gDg (vP 0))) (seqP (putP uDg (divP gDg (vP 0))) (seqP (retP (vP 2)) nilP))) nilP)
    (seqP (setP 3 (modP (addP (addP (mulP gFo (cP 48271)) (mulP gCt (cP 7919))) (cP 13)) (cP 2147483647)))
     (seqP (setP 3 (modP (addP (addP (mulP (vP 3) (vP 3)) (mulP (cP 31) (vP 3))) gCt) (cP 2147483629)))
      (seqP (putP uFo (modP (addP (mulP (vP 3) (cP 16807)) (cP 7)) (cP 2147483647)))
       (seqP (retP (modP (divP (vP 3) (cP 64)) (vP 0))) nilP))))))
theorem short_mod (x : Int) : shortB (x % 2147483647) = true := decide_eq_true (by omega)
theorem drawP_ok {ns : List Int} {p : PSt} {m : Int} (h1 : 0 ≤ p.pt) (h2 : 0 ≤ p.dg) (hm : 0 < m) (hm2 : m < 1000000000) : ∃ p' r, drawP ns p [some m, none, none, none] = some (.rt p' r) ∧ 0 ≤ p'.pt ∧ 0 ≤ p'.dg ∧ 0 ≤ r ∧ r < m := by
  have sm : shortB m = true := decide_eq_true (by omega)
  have s0 : shortB 48271 = true := by decide
  have s1 : shortB 7919 = true := by decide
  have s2 : shortB 31 = true := by decide
  have s3 : shortB 16807 = true := by decide
  have s4 : shortB 64 = true := by decide
  have s5 : shortB 69069 = true := by decide
  have s6 : shortB 10 = true := by decide
  have key : ∀ q : PSt, 0 ≤ q.pt → 0 ≤ q.dg → ∀ c : Option Int, ∃ p' r, (seqP (ifP (cmpP (fun i j => decide (j < i)) gDg (cP 0)) (seqP (setP 2 (modP gDg (vP 0))) (seqP (putP uDg (divP gDg (vP 0))) (seqP (retP (vP 2)) nilP))) nilP)
    (seqP (setP 3 (modP (addP (addP (mulP gFo (cP 48271)) (mulP gCt (cP 7919))) (cP 13)) (cP 2147483647)))
     (seqP (setP 3 (modP (addP (addP (mulP (vP 3) (vP 3)) (mulP (cP 31) (vP 3))) gCt) (cP 2147483629)))
      (seqP (putP uFo (modP (addP (mulP (vP 3) (cP 16807)) (cP 7)) (cP 2147483647)))
       (seqP (retP (modP (divP (vP 3) (cP 64)) (vP 0))) nilP))))) q [some m, c, none, none] = some (.rt p' r) ∧ 0 ≤ p'.pt ∧ 0 ≤ p'.dg ∧ 0 ≤ r ∧ r < m := by
    intro q g1 g2 c
    by_cases hd : 0 < q.dg
    · refine ⟨uDg q (q.dg / m), q.dg % m, ?_, g1, Int.ediv_nonneg g2 (Int.le_of_lt hm), Int.emod_nonneg _ (Int.ne_of_gt hm), Int.emod_lt_of_pos _ hm⟩
      simp [seqP, ifP, cmpP, setP, putP, retP, nilP, oP, vP, gP, cP, hd, hm, sm]
    · refine ⟨uFo q ((((((q.fo * 48271 + q.ct * 7919 + 13) % 2147483647) * ((q.fo * 48271 + q.ct * 7919 + 13) % 2147483647) + 31 * ((q.fo * 48271 + q.ct * 7919 + 13) % 2147483647) + q.ct) % 2147483629) * 16807 + 7) % 2147483647), ((((q.fo * 48271 + q.ct * 7919 + 13) % 2147483647) * ((q.fo * 48271 + q.ct * 7919 + 13) % 2147483647) + 31 * ((q.fo * 48271 + q.ct * 7919 + 13) % 2147483647) + q.ct) % 2147483629) / 64 % m, ?_, g1, g2, Int.emod_nonneg _ (Int.ne_of_gt hm), Int.emod_lt_of_pos _ hm⟩
      simp [seqP, ifP, cmpP, setP, putP, retP, nilP, oP, vP, gP, cP, hd, hm, sm, s0, s1, s2, s3, s4, short_mod]
  have step : ∀ T : TPS, ∃ q c, 0 ≤ q.pt ∧ 0 ≤ q.dg ∧ (seqP (putP uCt (addP gCt (cP 1))) (seqP (ifP (andP (cmpP (fun i j => decide (i = j)) gDg (cP 0)) (cmpP (fun i j => decide (i < j)) gPt (lenP ns)))
    (seqP (setP 1 (ixP ns gPt)) (seqP (putP uPt (addP gPt (cP 1))) (seqP (ifP (cmpP (fun i j => decide (j ≤ i)) (vP 1) (powP (cP 10) (cP 18)))
      (seqP (putP uDg (subP (vP 1) (powP (cP 10) (cP 18)))) nilP) (seqP (putP uFo (modP (addP (mulP gFo (cP 69069)) (vP 1)) (cP 2147483587))) nilP)) nilP))) nilP) T)) p [some m, none, none, none] = T q [some m, c, none, none] := by
    intro T
    by_cases ha : p.dg = 0
    · by_cases hb : p.pt < (ns.length : Int)
      · have hx : ∃ z, ns[p.pt.toNat]? = some z := ⟨ns[p.pt.toNat]'(by omega), List.getElem?_eq_getElem _⟩
        obtain ⟨z, hz⟩ := hx
        have hi : ∀ loc, ixP ns gPt (uCt p (p.ct + 1)) loc = some z := fun loc => by
          show (if 0 ≤ p.pt then ns[p.pt.toNat]? else none) = some z
          rw [if_pos h1, hz]
        by_cases hc : (1000000000000000000 : Int) ≤ z
        · refine ⟨uDg (uPt (uCt p (p.ct + 1)) (p.pt + 1)) (z - 1000000000000000000), some z, by show 0 ≤ p.pt + 1; omega, by show 0 ≤ z - 1000000000000000000; omega, ?_⟩
          simp [seqP, ifP, cmpP, andP, setP, putP, nilP, oP, vP, gP, cP, lenP, ha, hb, hi, hc, s6]
        · refine ⟨uFo (uPt (uCt p (p.ct + 1)) (p.pt + 1)) ((p.fo * 69069 + z) % 2147483587), some z, by show 0 ≤ p.pt + 1; omega, h2, ?_⟩
          simp [seqP, ifP, cmpP, andP, setP, putP, nilP, oP, vP, gP, cP, lenP, ha, hb, hi, hc, s5, s6]
      · refine ⟨uCt p (p.ct + 1), none, h1, h2, ?_⟩
        simp [seqP, ifP, cmpP, andP, setP, putP, nilP, oP, vP, gP, cP, lenP, ha, hb]
    · refine ⟨uCt p (p.ct + 1), none, h1, h2, ?_⟩
      simp [seqP, ifP, cmpP, andP, setP, putP, nilP, oP, vP, gP, cP, lenP, ha]
  obtain ⟨q, c, q1, q2, e⟩ := step _
  unfold drawP
  rw [e]
  exact key q q1 q2 c
theorem hpP_self {H : Hp} {d l : Addr} {p : PSt} (h : H d = some (.dK (penKvs l p.pt p.dg p.ct p.fo))) : H = hpP H d l p := by
  funext b
  unfold hpP upd
  by_cases e : b = d
  · simp [e, h]
  · simp [e]
theorem cells_of {K : PySem.W.Frag} {H : Hp} {d l : Addr} {ns : List Int} {kvs : List (Key × V)} (h : H d = some (.dK kvs)) (q : SqL K H l (ns.map V.int)) (p : PSt) : SqL K (hpP H d l p) l (ns.map V.int) := by
  unfold hpP
  rcases q with (q | ⟨o, q⟩) | q
  · have ne : l ≠ d := by
      intro z; rw [z, h] at q; cases q
    exact .inl (.inl (by rw [upd_ne ne]; exact q))
  · have ne : l ≠ d := by
      intro z; rw [z, h] at q; cases q
    exact .inl (.inr ⟨o, by rw [upd_ne ne]; exact q⟩)
  · exact .inr q
/-- a pen's dict changed: all else stays -/
theorem pen_turn {c : Cn} {H : Hp} {d l : Addr} (j : J c H) (hp : c.pen = some (d, l)) {p0 p : PSt} (h : H d = some (.dK (penKvs l p0.pt p0.dg p0.ct p0.fo))) (h1 : 0 ≤ p.pt) (h2 : 0 ≤ p.dg) : J c (hpP H d l p) ∧ Ext c.W H (hpP H d l p) := by
  have jt : JD { c with pen := none } (hpP H d l p) := jd_turn (c := { c with pen := none }) ⟨(fun a l e => by cases e), j.jd.tabs⟩ h (fun ⟨l, e⟩ => by cases e) (.inr ⟨_, rfl⟩)
  refine ⟨⟨⟨fun a l' e => ?_, jt.tabs⟩, fun a l' e => ?_⟩, ext_upd (fun ps z => by cases z) ⟨l, hp⟩⟩
  · rw [hp] at e
    cases e
    exact ⟨p.pt, p.dg, p.ct, p.fo, h1, h2, pen_at⟩
  · rw [hp] at e
    cases e
    obtain ⟨ns, q⟩ := j.cells d l hp
    exact ⟨ns, cells_of h q p⟩
theorem draw_of {P : Program} {w : World} {K : PySem.W.Frag} {mg : Str → Option Value} {base : Heap} {T : List (Addr × Str)} {k : Nat} {x : Str} {st : Stmt} {f : Addr} {fd : FuncData} (F : Fun K x x st f fd) (hm : mg x = some (.ref f))
    (Sc : FnScope ["pen", "many", "cell", "digit", "blend"] ["pen", "many"] (defScope st)) (bd : Binds K fd ["pen", "many"] [])
    (body : ∀ (cdv : Value) (A : Around) (outer : List Env) (s : Shared) (H : Hp) (E : XK) (H0 : Hp) (d l : Addr) (ns : List Int), (cxD P w K mg base ["pen", "many", "cell", "digit", "blend"] x st f cdv A outer s H E).A.units + 64 < cLine →
      (cxD P w K mg base ["pen", "many", "cell", "digit", "blend"] x st f cdv A outer s H E).N.Nodup → Cells (cxD P w K mg base ["pen", "many", "cell", "digit", "blend"] x st f cdv A outer s H E) H0 d l ns →
      PSs (cxD P w K mg base ["pen", "many", "cell", "digit", "blend"] x st f cdv A outer s H E) (defBody st) (LPS H0 d l (drawP ns))) : Def P w K mg base T (k + 1) x specDraw := by
  refine ⟨⟨f, fd, _, hm, F.kp, bd, ?_⟩, sx_mono⟩
  refine fnG_of F Sc (fun vs H Q E h => ?_) fun cdv A outer s H vs Q E _ hr hsp => ?_
  · obtain ⟨pen, F', ds, _, _, _, rs, m, e, _⟩ := h
    rw [rs.length, e]; rfl
  · obtain ⟨pen, F', ds, j, fw, hfd, rs, m, e, ⟨m1, m2⟩, hpost, _⟩ := hsp
    subst e
    cases rs with
    | cons r1 rs =>
      cases rs with
      | cons r2 rs =>
        cases rs
        cases r2
        cases r1 with
        | @pen d l hp =>
          obtain ⟨pt, dg, ct, fo, a1, a2, hd⟩ := j.jd.pen d l hp
          obtain ⟨ns, hq⟩ := j.cells d l hp
          obtain ⟨p', r, e1, b1, b2, b3, b4⟩ := drawP_ok (ns := ns) (p := ⟨pt, dg, ct, fo⟩) a1 a2 m1 m2
          refine ⟨_, body cdv A outer s H E H d l ns hr.r.units Sc.nd (cells_of hd hq), ⟨pt, dg, ct, fo⟩, [some m, none, none, none], _, rfl, hpP_self hd, e1, ?_⟩
          obtain ⟨jj, ee⟩ := pen_turn (c := ⟨K, mg, pen, T⟩) (p0 := ⟨pt, dg, ct, fo⟩) (p := p') j hp hd b1 b2
          exact hpost _ ⟨r, b3, b4, rfl⟩ _ _ jj ee (.int r)
end DL

set_option Elab.async false
set_option linter.all false
set_option maxRecDepth 100000
set_option maxHeartbeats 8000000
/-! DL10: calls of built-ins over data, subscripts, isinstance, repr. -/
namespace DL
open PySem PySem.Spec PyProof.Rows L2
/-- a built-in's meaning over data -/
def CallD (g : Gh) (r : List V → Hp → VK → Prop) (k : List D → (D → Prop) → Prop) : Prop := ∀ (A : List Addr) (δ : List Slot) (σ : St) (H : Hp) (vs : List V) (ds : List D) (Q : VK), Ok g A δ σ H → Reps g.toCn (g.bar A) H vs ds → k ds (Post g A H Q) → r vs H Q
def MonoL (k : List D → (D → Prop) → Prop) : Prop := ∀ ds (K K' : D → Prop), (∀ d, K d → K' d) → k ds K → k ds K'
def dB (k : List D → (D → Prop) → Prop) (u : TDA) : TD := fun δ K => u δ fun ds => k ds K
section
variable {X : Cx} {g : Gh} {EX : List Slot → Exc → Prop} {j : Nat} {r : List V → Hp → VK → Prop} {k : List D → (D → Prop) → Prop} {x : Str} {p pos : Pos} {e : Expr} {es : List Expr} {u : TDA}
theorem cb_lift (hk : CallD g r k) (km : MonoL k) (ha : DA X g (e :: es) u) {σ : St} {H : Hp} {Q : VK} (h : LiftE g (dB k u) σ H Q) : tCB r (LiftA g u) σ H Q := by
  obtain ⟨A, δ, ok, h⟩ := h
  refine ⟨A, δ, ok, ha.mono _ _ _ (fun ds hd vs H1 e1 j1 r1 => ?_) h⟩
  exact hk A δ σ H1 vs ds Q (ok.step e1 j1) r1 (km _ _ _ (fun d hd => Post.step e1 hd) hd)
theorem de_callB {id : String} (hc : CallR X (.builtin id) r) (hk : CallD g r k) (km : MonoL k) (hg : Gl X x) (hm : X.mg x = none) (hv : bootBuiltins x = some (.builtin id)) (ha : DA X g (e :: es) u) (hn : x ≠ "__name__" := by decide) (hdb : (x == ("__debug__" : Str)) = false := by decide)
    (he : starEach (e :: es) X.env = (false, eval e X.env) :: starEach es X.env := by rfl) (hpl : (backTo pos (starEach es X.env)).any (·.1) = false := by rfl) : DE X g (.Call (.Name x p) (e :: es) [] pos) (dB k u) :=
  ⟨PE.weak (pe_callB hc hg hm hv ha.pa hn hdb he hpl) fun σ H Q h => cb_lift hk km ha h, fun δ K K' hk' h => ha.mono _ _ _ (fun ds hd => km _ _ _ hk' hd) h⟩
theorem de_callTy {T : String} (hc : CallR X (.type T) r) (hk : CallD g r k) (km : MonoL k) (hg : Gl X x) (hm : X.mg x = none) (hv : bootBuiltins x = some (.type T)) (ha : DA X g (e :: es) u) (hn : x ≠ "__name__" := by decide) (hdb : (x == ("__debug__" : Str)) = false := by decide)
    (he : starEach (e :: es) X.env = (false, eval e X.env) :: starEach es X.env := by rfl) (hpl : (backTo pos (starEach es X.env)).any (·.1) = false := by rfl) : DE X g (.Call (.Name x p) (e :: es) [] pos) (dB k u) :=
  ⟨PE.weak (pe_callTy hc hg hm hv ha.pa hn hdb he hpl) fun σ H Q h => cb_lift hk km ha h, fun δ K K' hk' h => ha.mono _ _ _ (fun ds hd => km _ _ _ hk' hd) h⟩
theorem de_callBf {id : String} (hc : CallR X (.builtin id) r) (hk : CallD g r k) (km : MonoL k) (hg : Gl X x) (hm : X.mg x = some (.builtin id)) (ha : DA X g (e :: es) u) (hdb : (x == ("__debug__" : Str)) = false := by decide)
    (he : starEach (e :: es) X.env = (false, eval e X.env) :: starEach es X.env := by rfl) (hpl : (backTo pos (starEach es X.env)).any (·.1) = false := by rfl) : DE X g (.Call (.Name x p) (e :: es) [] pos) (dB k u) :=
  ⟨PE.weak (pe_callBfun hc hg hm ha.pa hdb he hpl) fun σ H Q h => cb_lift hk km ha h, fun δ K K' hk' h => ha.mono _ _ _ (fun ds hd => km _ _ _ hk' hd) h⟩
end
/-! ### len, int, abs, list, tuple, min, max, sum, all, any, gcd -/
def kLen : List D → (D → Prop) → Prop
  | [.lst xs], K => K (.int xs.length)
  | [.tup xs], K => K (.int xs.length)
  | [.str s], K => s.length ≤ sizeLine ∧ K (.int s.length)
  | _, _ => False
def kInt1 : List D → (D → Prop) → Prop
  | [.int i], K => K (.int i)
  | [.bl b], K => K (.int (if b then 1 else 0))
  | _, _ => False
def kAbs : List D → (D → Prop) → Prop
  | [.int i], K => K (.int (if i < 0 then -i else i))
  | _, _ => False
def kList : List D → (D → Prop) → Prop
  | [.lst xs], K => K (.lst xs)
  | [.tup xs], K => K (.lst xs)
  | _, _ => False
def kTuple : List D → (D → Prop) → Prop
  | [.lst xs], K => K (.tup xs)
  | [.tup xs], K => K (.tup xs)
  | _, _ => False
def kMax2 : List D → (D → Prop) → Prop
  | [.int i, .int j], K => K (.int (if j > i then j else i))
  | _, _ => False
def kMin2 : List D → (D → Prop) → Prop
  | [.int i, .int j], K => K (.int (if j < i then j else i))
  | _, _ => False
def kGcd : List D → (D → Prop) → Prop
  | [.int i, .int j], K => K (.int ((Nat.gcd i.natAbs j.natAbs : Nat) : Int))
  | _, _ => False
def kSum : List D → (D → Prop) → Prop := fun ds K => ∃ ns : List Int, ds = [.lst (ns.map .int)] ∧ K (.int ns.sum)
def kAll : List D → (D → Prop) → Prop := fun ds K => ∃ bs : List Bool, ds = [.lst (bs.map .bl)] ∧ K (.bl (bs.all id))
def kAny : List D → (D → Prop) → Prop := fun ds K => ∃ bs : List Bool, ds = [.lst (bs.map .bl)] ∧ K (.bl (bs.any id))
def kSorted : List D → (D → Prop) → Prop := fun ds K => ∃ ns : List Int, ds = [.lst (ns.map .int)] ∧ ns.length < 64 ∧ ∀ ms : List Int, ms.Perm ns → ms.Pairwise (· ≤ ·) → K (.lst (ms.map .int))
def kMaxL : List D → (D → Prop) → Prop := fun ds K => ∃ ns : List Int, ds = [.lst (ns.map .int)] ∧ 0 < ns.length ∧ ∀ m, m ∈ ns → (∀ y, y ∈ ns → y ≤ m) → K (.int m)
def kMinL : List D → (D → Prop) → Prop := fun ds K => ∃ ns : List Int, ds = [.lst (ns.map .int)] ∧ 0 < ns.length ∧ ∀ m, m ∈ ns → (∀ y, y ∈ ns → m ≤ y) → K (.int m)
theorem reps_ints {c : Cn} {F : Addr → Prop} {H : Hp} : ∀ {ns : List Int} {vs : List V}, Reps c F H vs (ns.map .int) → vs = ns.map V.int
  | [], _, .nil => rfl
  | n :: ns, _, .cons r rs => by
    cases r
    rw [List.map_cons, reps_ints rs]
theorem reps_bls {c : Cn} {F : Addr → Prop} {H : Hp} : ∀ {ns : List Bool} {vs : List V}, Reps c F H vs (ns.map .bl) → vs = ns.map V.bl
  | [], _, .nil => rfl
  | n :: ns, _, .cons r rs => by
    cases r
    rw [List.map_cons, reps_bls rs]
theorem ints_reps {c : Cn} {F : Addr → Prop} {H : Hp} : ∀ {ns : List Int}, Reps c F H (ns.map V.int) (ns.map .int)
  | [] => .nil
  | n :: ns => .cons (.int n) ints_reps
section
variable {X : Cx} {g : Gh}
theorem mLen : MonoL kLen := fun ds K K' h q => by
  unfold kLen at q ⊢
  split at q
  · exact h _ q
  · exact h _ q
  · exact ⟨q.1, h _ q.2⟩
  · exact q
theorem mInt1 : MonoL kInt1 := fun ds K K' h q => by
  unfold kInt1 at q ⊢
  split at q
  · exact h _ q
  · exact h _ q
  · exact q
theorem mAbs : MonoL kAbs := fun ds K K' h q => by
  unfold kAbs at q ⊢
  split at q
  · exact h _ q
  · exact q
theorem mList : MonoL kList := fun ds K K' h q => by
  unfold kList at q ⊢
  split at q
  · exact h _ q
  · exact h _ q
  · exact q
theorem mTuple : MonoL kTuple := fun ds K K' h q => by
  unfold kTuple at q ⊢
  split at q
  · exact h _ q
  · exact h _ q
  · exact q
theorem mMax2 : MonoL kMax2 := fun ds K K' h q => by
  unfold kMax2 at q ⊢
  split at q
  · exact h _ q
  · exact q
theorem mMin2 : MonoL kMin2 := fun ds K K' h q => by
  unfold kMin2 at q ⊢
  split at q
  · exact h _ q
  · exact q
theorem mGcd : MonoL kGcd := fun ds K K' h q => by
  unfold kGcd at q ⊢
  split at q
  · exact h _ q
  · exact q
theorem mSum : MonoL kSum := fun ds K K' h ⟨ns, e, q⟩ => ⟨ns, e, h _ q⟩
theorem mAll : MonoL kAll := fun ds K K' h ⟨ns, e, q⟩ => ⟨ns, e, h _ q⟩
theorem mAny : MonoL kAny := fun ds K K' h ⟨ns, e, q⟩ => ⟨ns, e, h _ q⟩
theorem mSorted : MonoL kSorted := fun ds K K' h ⟨ns, e, e2, q⟩ => ⟨ns, e, e2, fun ms a b => h _ (q ms a b)⟩
theorem mMaxL : MonoL kMaxL := fun ds K K' h ⟨ns, e, e2, q⟩ => ⟨ns, e, e2, fun ms a b => h _ (q ms a b)⟩
theorem mMinL : MonoL kMinL := fun ds K K' h ⟨ns, e, e2, q⟩ => ⟨ns, e, e2, fun ms a b => h _ (q ms a b)⟩
theorem one_rep {c : Cn} {F : Addr → Prop} {H : Hp} {vs : List V} {d : D} (r : Reps c F H vs [d]) : ∃ v, vs = [v] ∧ Rep c F H v d := by
  cases r with
  | cons r1 r2 => cases r2; exact ⟨_, rfl, r1⟩
theorem two_rep {c : Cn} {F : Addr → Prop} {H : Hp} {vs : List V} {d e : D} (r : Reps c F H vs [d, e]) : ∃ v w, vs = [v, w] ∧ Rep c F H v d ∧ Rep c F H w e := by
  cases r with
  | cons r1 r2 =>
    obtain ⟨w, e2, r3⟩ := one_rep r2
    exact ⟨_, w, by rw [e2], r1, r3⟩
theorem cLen (hK : g.K = X.K) : CallD g (fun xs H Q => ∃ x n, xs = [x] ∧ LenV X.K x H n ∧ Q (.int n) H) kLen := fun A δ σ H vs ds Q ok r q => by
  unfold kLen at q
  split at q
  · obtain ⟨v, e, r1⟩ := one_rep r
    obtain ⟨a, ws, e2, h1, h2⟩ := r1.isLst
    subst e; subst e2
    exact ⟨_, _, rfl, .inl ⟨ws, .of h1, rfl⟩, by rw [h2.length]; exact q _ H (Ext.refl _ _) ok.jd (.int _)⟩
  · obtain ⟨v, e, r1⟩ := one_rep r
    obtain ⟨a, ws, e2, h1, h2⟩ := r1.isTup
    subst e; subst e2
    rw [hK] at h1
    exact ⟨_, _, rfl, .inr ⟨ws, h1, rfl⟩, by rw [h2.length]; exact q _ H (Ext.refl _ _) ok.jd (.int _)⟩
  · obtain ⟨v, e, r1⟩ := one_rep r
    subst e
    cases r1
    exact ⟨_, _, rfl, ⟨q.1, rfl⟩, q.2 _ H (Ext.refl _ _) ok.jd (.int _)⟩
  · exact q.elim
theorem cInt1 : CallD g (fun xs H Q => (∃ i, xs = [.int i] ∧ Q (.int i) H) ∨ ∃ k, xs = [.bl k] ∧ Q (.int (if k then 1 else 0)) H) kInt1 := fun A δ σ H vs ds Q ok r q => by
  unfold kInt1 at q
  split at q
  · obtain ⟨v, e, r1⟩ := one_rep r
    subst e; cases r1
    exact .inl ⟨_, rfl, q _ H (Ext.refl _ _) ok.jd (.int _)⟩
  · obtain ⟨v, e, r1⟩ := one_rep r
    subst e; cases r1
    exact .inr ⟨_, rfl, q _ H (Ext.refl _ _) ok.jd (.int _)⟩
  · exact q.elim
theorem cAbs : CallD g (fun xs H Q => ∃ i, xs = [.int i] ∧ Q (.int (if i < 0 then -i else i)) H) kAbs := fun A δ σ H vs ds Q ok r q => by
  unfold kAbs at q
  split at q
  · obtain ⟨v, e, r1⟩ := one_rep r
    subst e; cases r1
    exact ⟨_, rfl, q _ H (Ext.refl _ _) ok.jd (.int _)⟩
  · exact q.elim
theorem cMax2 : CallD g (fun xs H Q => ∃ i j, xs = [.int i, .int j] ∧ Q (.int (if j > i then j else i)) H) kMax2 := fun A δ σ H vs ds Q ok r q => by
  unfold kMax2 at q
  split at q
  · obtain ⟨v, w, e, r1, r2⟩ := two_rep r
    subst e; cases r1; cases r2
    exact ⟨_, _, rfl, q _ H (Ext.refl _ _) ok.jd (.int _)⟩
  · exact q.elim
theorem cMin2 : CallD g (fun xs H Q => ∃ i j, xs = [.int i, .int j] ∧ Q (.int (if j < i then j else i)) H) kMin2 := fun A δ σ H vs ds Q ok r q => by
  unfold kMin2 at q
  split at q
  · obtain ⟨v, w, e, r1, r2⟩ := two_rep r
    subst e; cases r1; cases r2
    exact ⟨_, _, rfl, q _ H (Ext.refl _ _) ok.jd (.int _)⟩
  · exact q.elim
theorem cGcd : CallD g rGcd kGcd := fun A δ σ H vs ds Q ok r q => by
  unfold kGcd at q
  split at q
  · obtain ⟨v, w, e, r1, r2⟩ := two_rep r
    subst e; cases r1; cases r2
    exact ⟨_, _, rfl, q _ H (Ext.refl _ _) ok.jd (.int _)⟩
  · exact q.elim
theorem cList (hK : g.K = X.K) : CallD g (fun xs H Q => ∃ p ys, xs = [.ref p] ∧ (SqL X.K H p ys ∨ SqT X.K H p ys) ∧ ∀ l, H l = none → Q (.ref l) (upd H l (.lst ys))) kList := fun A δ σ H vs ds Q ok r q => by
  unfold kList at q
  split at q
  · obtain ⟨v, e, r1⟩ := one_rep r
    obtain ⟨a, ws, e2, h1, h2⟩ := r1.isLst
    subst e; subst e2
    exact ⟨_, _, rfl, .inl (.of h1), fun l hl => q _ _ (Ext.new hl) (ok.jd.new hl) (.lst upd_same (ok.fresh hl) (h2.ext (Ext.new hl)))⟩
  · obtain ⟨v, e, r1⟩ := one_rep r
    obtain ⟨a, ws, e2, h1, h2⟩ := r1.isTup
    subst e; subst e2
    rw [hK] at h1
    exact ⟨_, _, rfl, .inr h1, fun l hl => q _ _ (Ext.new hl) (ok.jd.new hl) (.lst upd_same (ok.fresh hl) (h2.ext (Ext.new hl)))⟩
  · exact q.elim
theorem cTuple (hK : g.K = X.K) : CallD g (fun xs H Q => ∃ p ys, xs = [.ref p] ∧ ((SqL X.K H p ys ∧ ∀ l, H l = none → Q (.ref l) (upd H l (.tup ys))) ∨ (SqT X.K H p ys ∧ Q (.ref p) H))) kTuple := fun A δ σ H vs ds Q ok r q => by
  unfold kTuple at q
  split at q
  · obtain ⟨v, e, r1⟩ := one_rep r
    obtain ⟨a, ws, e2, h1, h2⟩ := r1.isLst
    subst e; subst e2
    exact ⟨_, _, rfl, .inl ⟨.of h1, fun l hl => q _ _ (Ext.new hl) (ok.jd.new hl) (.tup (.of upd_same) (ok.fresh hl) (h2.ext (Ext.new hl)))⟩⟩
  · obtain ⟨v, e, r1⟩ := one_rep r
    have r2 := r1
    obtain ⟨a, ws, e2, h1, h2⟩ := r1.isTup
    subst e; subst e2
    rw [hK] at h1
    exact ⟨_, _, rfl, .inr ⟨h1, q _ H (Ext.refl _ _) ok.jd r2⟩⟩
  · exact q.elim
theorem cSum : CallD g (rSum X.K) kSum := fun A δ σ H vs ds Q ok r ⟨ns, e, q⟩ => by
  subst e
  obtain ⟨v, e, r1⟩ := one_rep r
  obtain ⟨a, ws, e2, h1, h2⟩ := r1.isLst
  subst e; subst e2
  rw [reps_ints h2] at h1
  exact ⟨a, ns, rfl, .of h1, q _ H (Ext.refl _ _) ok.jd (.int _)⟩
theorem cAll : CallD g (rAll X.K) kAll := fun A δ σ H vs ds Q ok r ⟨ns, e, q⟩ => by
  subst e
  obtain ⟨v, e, r1⟩ := one_rep r
  obtain ⟨a, ws, e2, h1, h2⟩ := r1.isLst
  subst e; subst e2
  rw [reps_bls h2] at h1
  exact ⟨a, ns, rfl, .of h1, q _ H (Ext.refl _ _) ok.jd (.bl _)⟩
theorem cAny : CallD g (rAny X.K) kAny := fun A δ σ H vs ds Q ok r ⟨ns, e, q⟩ => by
  subst e
  obtain ⟨v, e, r1⟩ := one_rep r
  obtain ⟨a, ws, e2, h1, h2⟩ := r1.isLst
  subst e; subst e2
  rw [reps_bls h2] at h1
  exact ⟨a, ns, rfl, .of h1, q _ H (Ext.refl _ _) ok.jd (.bl _)⟩
theorem cSorted : CallD g (rSorted X.K) kSorted := fun A δ σ H vs ds Q ok r ⟨ns, e, l, q⟩ => by
  subst e
  obtain ⟨v, e, r1⟩ := one_rep r
  obtain ⟨a, ws, e2, h1, h2⟩ := r1.isLst
  subst e; subst e2
  rw [reps_ints h2] at h1
  exact ⟨a, ns, rfl, .of h1, l, fun ms p a1 a2 hp => q ms a1 a2 _ _ (Ext.new hp) (ok.jd.new hp) (.lst upd_same (ok.fresh hp) ints_reps)⟩
theorem cMaxL : CallD g (rMax X.K) kMaxL := fun A δ σ H vs ds Q ok r ⟨ns, e, l, q⟩ => by
  subst e
  obtain ⟨v, e, r1⟩ := one_rep r
  obtain ⟨a, ws, e2, h1, h2⟩ := r1.isLst
  subst e; subst e2
  rw [reps_ints h2] at h1
  exact ⟨a, ns, rfl, .of h1, l, fun m a1 a2 => q m a1 a2 _ H (Ext.refl _ _) ok.jd (.int _)⟩
theorem cMinL : CallD g (rMin X.K) kMinL := fun A δ σ H vs ds Q ok r ⟨ns, e, l, q⟩ => by
  subst e
  obtain ⟨v, e, r1⟩ := one_rep r
  obtain ⟨a, ws, e2, h1, h2⟩ := r1.isLst
  subst e; subst e2
  rw [reps_ints h2] at h1
  exact ⟨a, ns, rfl, .of h1, l, fun m a1 a2 => q m a1 a2 _ H (Ext.refl _ _) ok.jd (.int _)⟩
end
section
variable {X : Cx} {g : Gh} {EX : List Slot → Exc → Prop} {j : Nat} {p pos : Pos} {e : Expr} {es : List Expr} {u : TDA}
theorem de_len (z : Cb X g) (hg : Gl X "len") (hm : X.mg "len" = none) (ha : DA X g (e :: es) u) (he : starEach (e :: es) X.env = (false, eval e X.env) :: starEach es X.env := by rfl) (hpl : (backTo pos (starEach es X.env)).any (·.1) = false := by rfl) : DE X g (.Call (.Name "len" p) (e :: es) [] pos) (dB kLen u) := de_callB call_len (cLen z.hK) mLen hg hm (by rfl) ha (he := he) (hpl := hpl)
theorem de_int1 (hg : Gl X "int") (hm : X.mg "int" = none) (ha : DA X g (e :: es) u) (he : starEach (e :: es) X.env = (false, eval e X.env) :: starEach es X.env := by rfl) (hpl : (backTo pos (starEach es X.env)).any (·.1) = false := by rfl) : DE X g (.Call (.Name "int" p) (e :: es) [] pos) (dB kInt1 u) := de_callTy call_int1 cInt1 mInt1 hg hm (by rfl) ha (he := he) (hpl := hpl)
theorem de_abs (hg : Gl X "abs") (hm : X.mg "abs" = none) (ha : DA X g (e :: es) u) (he : starEach (e :: es) X.env = (false, eval e X.env) :: starEach es X.env := by rfl) (hpl : (backTo pos (starEach es X.env)).any (·.1) = false := by rfl) : DE X g (.Call (.Name "abs" p) (e :: es) [] pos) (dB kAbs u) := de_callB call_abs cAbs mAbs hg hm (by rfl) ha (he := he) (hpl := hpl)
theorem de_list (z : Cb X g) (hg : Gl X "list") (hm : X.mg "list" = none) (ha : DA X g (e :: es) u) (he : starEach (e :: es) X.env = (false, eval e X.env) :: starEach es X.env := by rfl) (hpl : (backTo pos (starEach es X.env)).any (·.1) = false := by rfl) : DE X g (.Call (.Name "list" p) (e :: es) [] pos) (dB kList u) := de_callTy call_list_of (cList z.hK) mList hg hm (by rfl) ha (he := he) (hpl := hpl)
theorem de_tuple (z : Cb X g) (hg : Gl X "tuple") (hm : X.mg "tuple" = none) (ha : DA X g (e :: es) u) (he : starEach (e :: es) X.env = (false, eval e X.env) :: starEach es X.env := by rfl) (hpl : (backTo pos (starEach es X.env)).any (·.1) = false := by rfl) : DE X g (.Call (.Name "tuple" p) (e :: es) [] pos) (dB kTuple u) := de_callTy call_tuple_of (cTuple z.hK) mTuple hg hm (by rfl) ha (he := he) (hpl := hpl)
theorem de_max2 (z : Cz X g EX j) (hg : Gl X "max") (hm : X.mg "max" = none) (ha : DA X g (e :: es) u) (he : starEach (e :: es) X.env = (false, eval e X.env) :: starEach es X.env := by rfl) (hpl : (backTo pos (starEach es X.env)).any (·.1) = false := by rfl) : DE X g (.Call (.Name "max" p) (e :: es) [] pos) (dB kMax2 u) := de_callB (call_max2 z.calm) cMax2 mMax2 hg hm (by rfl) ha (he := he) (hpl := hpl)
theorem de_min2 (z : Cz X g EX j) (hg : Gl X "min") (hm : X.mg "min" = none) (ha : DA X g (e :: es) u) (he : starEach (e :: es) X.env = (false, eval e X.env) :: starEach es X.env := by rfl) (hpl : (backTo pos (starEach es X.env)).any (·.1) = false := by rfl) : DE X g (.Call (.Name "min" p) (e :: es) [] pos) (dB kMin2 u) := de_callB (call_min2 z.calm) cMin2 mMin2 hg hm (by rfl) ha (he := he) (hpl := hpl)
theorem de_sum (z : Cz X g EX j) (hg : Gl X "sum") (hm : X.mg "sum" = none) (ha : DA X g (e :: es) u) (he : starEach (e :: es) X.env = (false, eval e X.env) :: starEach es X.env := by rfl) (hpl : (backTo pos (starEach es X.env)).any (·.1) = false := by rfl) : DE X g (.Call (.Name "sum" p) (e :: es) [] pos) (dB kSum u) := de_callB (cr_sum z.calm) cSum mSum hg hm (by rfl) ha (he := he) (hpl := hpl)
theorem de_all (z : Cz X g EX j) (hg : Gl X "all") (hm : X.mg "all" = none) (ha : DA X g (e :: es) u) (he : starEach (e :: es) X.env = (false, eval e X.env) :: starEach es X.env := by rfl) (hpl : (backTo pos (starEach es X.env)).any (·.1) = false := by rfl) : DE X g (.Call (.Name "all" p) (e :: es) [] pos) (dB kAll u) := de_callB (cr_all z.calm) cAll mAll hg hm (by rfl) ha (he := he) (hpl := hpl)
theorem de_any (z : Cz X g EX j) (hg : Gl X "any") (hm : X.mg "any" = none) (ha : DA X g (e :: es) u) (he : starEach (e :: es) X.env = (false, eval e X.env) :: starEach es X.env := by rfl) (hpl : (backTo pos (starEach es X.env)).any (·.1) = false := by rfl) : DE X g (.Call (.Name "any" p) (e :: es) [] pos) (dB kAny u) := de_callB (cr_any z.calm) cAny mAny hg hm (by rfl) ha (he := he) (hpl := hpl)
theorem de_sorted (hg : Gl X "sorted") (hm : X.mg "sorted" = none) (ha : DA X g (e :: es) u) (he : starEach (e :: es) X.env = (false, eval e X.env) :: starEach es X.env := by rfl) (hpl : (backTo pos (starEach es X.env)).any (·.1) = false := by rfl) : DE X g (.Call (.Name "sorted" p) (e :: es) [] pos) (dB kSorted u) := de_callB cr_sorted cSorted mSorted hg hm (by rfl) ha (he := he) (hpl := hpl)
theorem de_maxL (z : Cz X g EX j) (hg : Gl X "max") (hm : X.mg "max" = none) (ha : DA X g (e :: es) u) (he : starEach (e :: es) X.env = (false, eval e X.env) :: starEach es X.env := by rfl) (hpl : (backTo pos (starEach es X.env)).any (·.1) = false := by rfl) : DE X g (.Call (.Name "max" p) (e :: es) [] pos) (dB kMaxL u) := de_callB (cr_max z.calm) cMaxL mMaxL hg hm (by rfl) ha (he := he) (hpl := hpl)
theorem de_minL (z : Cz X g EX j) (hg : Gl X "min") (hm : X.mg "min" = none) (ha : DA X g (e :: es) u) (he : starEach (e :: es) X.env = (false, eval e X.env) :: starEach es X.env := by rfl) (hpl : (backTo pos (starEach es X.env)).any (·.1) = false := by rfl) : DE X g (.Call (.Name "min" p) (e :: es) [] pos) (dB kMinL u) := de_callB (cr_min z.calm) cMinL mMinL hg hm (by rfl) ha (he := he) (hpl := hpl)
theorem de_gcd {x : Str} (hg : Gl X x) (hm : X.mg x = some (.builtin "math.gcd")) (ha : DA X g (e :: es) u) (hdb : (x == ("__debug__" : Str)) = false := by decide) (he : starEach (e :: es) X.env = (false, eval e X.env) :: starEach es X.env := by rfl) (hpl : (backTo pos (starEach es X.env)).any (·.1) = false := by rfl) : DE X g (.Call (.Name x p) (e :: es) [] pos) (dB kGcd u) := de_callBf cr_gcd cGcd mGcd hg hm ha (hdb := hdb) (he := he) (hpl := hpl)
end
/-! ### subscripts -/
def kIx : D → D → (D → Prop) → Prop
  | .lst xs, .int i, K => ∃ d, atI xs i = some d ∧ K d
  | .tup xs, .int i, K => ∃ d, atI xs i = some d ∧ K d
  | .str z, .int i, K => z.length ≤ sizeLine ∧ ∃ c, atI z.cps.toList i = some c ∧ K (.str ⟨#[c]⟩)
  | _, _, _ => False
theorem kIx_mono : Mono2 kIx := fun x y K K' h q => by
  unfold kIx at q ⊢
  split at q
  · obtain ⟨d, e, q⟩ := q; exact ⟨d, e, h _ q⟩
  · obtain ⟨d, e, q⟩ := q; exact ⟨d, e, h _ q⟩
  · obtain ⟨l, d, e, q⟩ := q; exact ⟨l, d, e, h _ q⟩
  · exact q
theorem atI_reps {c : Cn} {F : Addr → Prop} {H : Hp} {vs : List V} {ds : List D} {i : Int} {d : D} (r : Reps c F H vs ds) (e : atI ds i = some d) : ∃ v, atI vs i = some v ∧ Rep c F H v d := by
  unfold atI at e ⊢
  rw [r.length]
  rw [Option.bind_eq_some_iff] at e
  obtain ⟨j, e1, e2⟩ := e
  obtain ⟨v, q1, q2⟩ := r.get e2
  exact ⟨v, by rw [e1]; exact q1, q2⟩
section
variable {X : Cx} {g : Gh} {EX : List Slot → Exc → Prop} {j : Nat} {p pos : Pos} {a b : Expr} {ta tb : TD}
theorem opIx_D (hK : g.K = X.K) : OpD g (rIx X.K) kIx := fun A δ σ H x y dx dy Q ok rx ry q => by
  unfold kIx at q
  split at q
  · obtain ⟨d, e, q⟩ := q
    obtain ⟨a, ws, e2, h1, h2⟩ := rx.isLst
    obtain ⟨v, e3, rv⟩ := atI_reps h2 e
    subst e2; cases ry
    exact .inl ⟨a, ws, _, v, rfl, rfl, .of h1, e3, q v H (Ext.refl _ _) ok.jd rv⟩
  · obtain ⟨d, e, q⟩ := q
    obtain ⟨a, ws, e2, h1, h2⟩ := rx.isTup
    obtain ⟨v, e3, rv⟩ := atI_reps h2 e
    subst e2; cases ry
    rw [hK] at h1
    exact .inr (.inl ⟨a, ws, _, v, rfl, rfl, h1, e3, q v H (Ext.refl _ _) ok.jd rv⟩)
  · obtain ⟨l, c, e, q⟩ := q
    cases rx; cases ry
    exact .inr (.inr ⟨_, _, c, rfl, rfl, l, e, q _ H (Ext.refl _ _) ok.jd (.str _)⟩)
  · exact q.elim
theorem de_ix (z : Cb X g) (ha : DE X g a ta) (hb : DE X g b tb) (hs : PlainIx b := by intro _ _; rfl) : DE X g (.Subscript a b pos) (dOp kIx ta tb) :=
  ⟨PE.weak (pe_ix ix_seq ha.pe hb.pe hs) fun σ H Q h => op_lift (opIx_D z.hK) kIx_mono ha hb h, op_mono kIx_mono ha hb⟩
/-- own[b], len(own): own the frame's own list in slot i -/
def dIxO (i : Nat) (tb : TD) : TD := fun δ K => match δ[i]? with
  | some (.own ds) => tb δ fun y => match y with
    | .int n => ∃ d, atI ds n = some d ∧ K d
    | _ => False
  | _ => False
theorem de_ixO (i : Nat) {x : Str} (hb : DE X g b tb) (hN : X.N[i]? = some x := by rfl) (hv : Vis X.env.scope x := by first | exact Or.inl rfl | exact Or.inr (Or.inl rfl) | exact Or.inr (Or.inr rfl)) (hd : (x == ("__debug__" : Str)) = false := by decide)
    (hcd : (x == ("__classdict__" : Str)) = false := by decide) (hs : PlainIx b := by intro _ _; rfl) : DE X g (.Subscript (.Name x p) b pos) (dIxO i tb) := by
  refine ⟨PE.weak (pe_ix ix_list (pe_var hN hv hd hcd) hb.pe hs) fun σ H Q ⟨A, δ, ok, h⟩ => ?_, fun δ K K' hk h => ?_⟩
  · unfold dIxO at h
    split at h
    · rename_i ds ei
      obtain ⟨a, vs, h1, h2, h3, h4⟩ := ok.getOwn ei
      refine ⟨.ref a, h1, A, δ, ok, hb.mono _ _ _ (fun d hd v H1 e1 j1 r1 => ?_) h⟩
      have q1 : H1 a = some (.lst vs) := e1.keep _ _ h3 (ok.noW a h2) fun ps z => nomatch z
      have rr : Reps g.toCn (g.bar A) H1 vs ds := h4.ext (e1.mono fun b hb => .inl (ok.fW b hb))
      cases d with
      | int n =>
        obtain ⟨d, e, q⟩ := hd
        obtain ⟨w, e3, rv⟩ := atI_reps rr e
        cases r1
        exact ⟨a, vs, n, w, rfl, rfl, .of q1, e3, q w H1 e1 j1 rv⟩
      | _ => exact (show False from hd).elim
    · exact h.elim
  · unfold dIxO at h ⊢
    split at h
    · refine hb.mono _ _ _ (fun d hd => ?_) h
      cases d with
      | int n =>
        obtain ⟨d, e, q⟩ := hd
        exact ⟨d, e, hk _ q⟩
      | _ => exact hd
    · exact h
def dLenO (i : Nat) : TD := fun δ K => match δ[i]? with
  | some (.own ds) => K (.int ds.length)
  | _ => False
theorem de_lenO (i : Nat) {x : Str} {p2 : Pos} (hg : Gl X "len") (hm : X.mg "len" = none) (hN : X.N[i]? = some x := by rfl) (hv : Vis X.env.scope x := by first | exact Or.inl rfl | exact Or.inr (Or.inl rfl) | exact Or.inr (Or.inr rfl)) (hd : (x == ("__debug__" : Str)) = false := by decide)
    (hcd : (x == ("__classdict__" : Str)) = false := by decide) : DE X g (.Call (.Name "len" p) [.Name x p2] [] pos) (dLenO i) := by
  refine ⟨PE.weak (pe_callB call_len hg hm (by rfl) (pa_cons (pe_var hN hv hd hcd) pa_nil)) fun σ H Q ⟨A, δ, ok, h⟩ => ?_, fun δ K K' hk h => ?_⟩
  · unfold dLenO at h
    split at h
    · rename_i ds ei
      obtain ⟨a, vs, h1, h2, h3, h4⟩ := ok.getOwn ei
      exact ⟨.ref a, h1, _, _, rfl, .inl ⟨vs, .of h3, rfl⟩, by rw [h4.length]; exact h _ H (Ext.refl _ _) ok.jd (.int _)⟩
    · exact h.elim
  · unfold dLenO at h ⊢
    split at h
    · exact hk _ h
    · exact h
end
end DL

set_option Elab.async false
set_option linter.all false
set_option maxRecDepth 100000
set_option maxHeartbeats 8000000
/-! DL11: isinstance of built-in classes, repr. -/
namespace DL
open PySem PySem.Spec PyProof.Rows L2
/-! ### isinstance -/
/-- the name of a value's built-in type -/
def tyN : D → Option String
  | .non => some "NoneType"
  | .bl _ => some "bool"
  | .int _ => some "int"
  | .str _ => some "str"
  | .tup _ => some "tuple"
  | .lst _ => some "list"
  | .dct _ => some "dict"
  | _ => none
def isIntD : D → Option Bool
  | .int _ => some true
  | .bl _ => some true
  | .non => some false
  | .str _ => some false
  | .tup _ => some false
  | .lst _ => some false
  | .dct _ => some false
  | _ => none
def isBoolD : D → Option Bool
  | .int _ => some false
  | .bl _ => some true
  | .non => some false
  | .str _ => some false
  | .tup _ => some false
  | .lst _ => some false
  | .dct _ => some false
  | _ => none
def isStrD : D → Option Bool
  | .int _ => some false
  | .bl _ => some false
  | .non => some false
  | .str _ => some true
  | .tup _ => some false
  | .lst _ => some false
  | .dct _ => some false
  | _ => none
def isTupD : D → Option Bool
  | .int _ => some false
  | .bl _ => some false
  | .non => some false
  | .str _ => some false
  | .tup _ => some true
  | .lst _ => some false
  | .dct _ => some false
  | _ => none
def isLstD : D → Option Bool
  | .int _ => some false
  | .bl _ => some false
  | .non => some false
  | .str _ => some false
  | .tup _ => some false
  | .lst _ => some true
  | .dct _ => some false
  | _ => none
def isDctD : D → Option Bool
  | .int _ => some false
  | .bl _ => some false
  | .non => some false
  | .str _ => some false
  | .tup _ => some false
  | .lst _ => some false
  | .dct _ => some true
  | _ => none
/-- list or tuple -/
def isSeqD : D → Option Bool
  | .int _ => some false
  | .bl _ => some false
  | .non => some false
  | .str _ => some false
  | .tup _ => some true
  | .lst _ => some true
  | .dct _ => some false
  | _ => none
/-- f tells of isinstance(x, b) -/
def IsT (f : D → Option Bool) (b : String) : Prop := ∀ d r, f d = some r → ∃ a, tyN d = some a ∧ kitB a b = some r
theorem ist_by {f : D → Option Bool} {b : String} {tI tB tN tS tT tL tD : Bool} (h1 : kitB "int" b = some tI) (h2 : kitB "bool" b = some tB) (h3 : kitB "NoneType" b = some tN) (h4 : kitB "str" b = some tS) (h5 : kitB "tuple" b = some tT) (h6 : kitB "list" b = some tL) (h7 : kitB "dict" b = some tD)
    (hf : f = fun d => match d with
      | .int _ => some tI
      | .bl _ => some tB
      | .non => some tN
      | .str _ => some tS
      | .tup _ => some tT
      | .lst _ => some tL
      | .dct _ => some tD
      | _ => none) : IsT f b := by
  subst hf
  intro d r e
  cases d <;> first
    | exact ⟨_, rfl, by rw [← e]; assumption⟩
    | exact absurd e (by simp)
theorem ist_int : IsT isIntD "int" := ist_by (tI := true) (tB := true) (tN := false) (tS := false) (tT := false) (tL := false) (tD := false) (by decide +kernel) (by decide +kernel) (by decide +kernel) (by decide +kernel) (by decide +kernel) (by decide +kernel) (by decide +kernel) (by funext d; cases d <;> rfl)
theorem ist_bool : IsT isBoolD "bool" := ist_by (tI := false) (tB := true) (tN := false) (tS := false) (tT := false) (tL := false) (tD := false) (by decide +kernel) (by decide +kernel) (by decide +kernel) (by decide +kernel) (by decide +kernel) (by decide +kernel) (by decide +kernel) (by funext d; cases d <;> rfl)
theorem ist_str : IsT isStrD "str" := ist_by (tI := false) (tB := false) (tN := false) (tS := true) (tT := false) (tL := false) (tD := false) (by decide +kernel) (by decide +kernel) (by decide +kernel) (by decide +kernel) (by decide +kernel) (by decide +kernel) (by decide +kernel) (by funext d; cases d <;> rfl)
theorem ist_tup : IsT isTupD "tuple" := ist_by (tI := false) (tB := false) (tN := false) (tS := false) (tT := true) (tL := false) (tD := false) (by decide +kernel) (by decide +kernel) (by decide +kernel) (by decide +kernel) (by decide +kernel) (by decide +kernel) (by decide +kernel) (by funext d; cases d <;> rfl)
theorem ist_lst : IsT isLstD "list" := ist_by (tI := false) (tB := false) (tN := false) (tS := false) (tT := false) (tL := true) (tD := false) (by decide +kernel) (by decide +kernel) (by decide +kernel) (by decide +kernel) (by decide +kernel) (by decide +kernel) (by decide +kernel) (by funext d; cases d <;> rfl)
theorem ist_dct : IsT isDctD "dict" := ist_by (tI := false) (tB := false) (tN := false) (tS := false) (tT := false) (tL := false) (tD := true) (by decide +kernel) (by decide +kernel) (by decide +kernel) (by decide +kernel) (by decide +kernel) (by decide +kernel) (by decide +kernel) (by funext d; cases d <;> rfl)
theorem Rep.tyX {c : Cn} {F : Addr → Prop} {H : Hp} {v : V} {d : D} {a : String} (r : Rep c F H v d) (e : tyN d = some a) : TyX c.K H v (.type a) := by
  cases r with
  | non => cases e; exact .base .non
  | bl b => cases e; exact .base (.bl b)
  | int i => cases e; exact .base (.int i)
  | str s => cases e; exact .base (.str s)
  | tup r n rs =>
    cases e
    rcases r with r | ⟨o, r⟩
    · exact .base (.tup r)
    · exact .fTuple r
  | tupK r rs =>
    cases e
    rcases r (fun _ => none) with (r | ⟨o, r⟩) | ⟨o, its, n, h1, h2, _⟩
    · cases r
    · cases r
    · exact .kTuple h1 h2
  | lst r n rs => cases e; exact .base (.lst r)
  | dct r n rs => cases e; exact .base (.dK r)
  | _ => cases e
def kIsi (f : D → Option Bool) (te : TD) : TD := fun δ K => te δ fun d => ∃ r, f d = some r ∧ K (.bl r)
section
variable {X : Cx} {g : Gh} {EX : List Slot → Exc → Prop} {j : Nat} {p pos p2 : Pos} {e : Expr} {te : TD}
theorem de_isi (z : Cb X g) {b : Str} {bT : String} {f : D → Option Bool} (hf : IsT f bT) (hg : Gl X "isinstance") (hm : X.mg "isinstance" = none) (he : DE X g e te) (hgb : Gl X b) (hmb : X.mg b = none) (hvb : bootBuiltins b = some (.type bT)) (hn : b ≠ "__name__" := by decide) (hdb : (b == ("__debug__" : Str)) = false := by decide)
    (h1 : starEach [e, .Name b p2] X.env = (false, eval e X.env) :: starEach [.Name b p2] X.env := by rfl) (h2 : starEach [.Name b p2] X.env = (false, eval (.Name b p2) X.env) :: starEach [] X.env := by rfl) (hpl : (backTo pos (starEach [.Name b p2] X.env)).any (·.1) = false := by rfl) :
    DE X g (.Call (.Name "isinstance" p) [e, .Name b p2] [] pos) (kIsi f te) := by
  refine ⟨PE.weak (pe_callB call_isi hg hm (by rfl) (pa_cons he.pe (pa_cons (pe_bltn (v := .ty bT) hgb hmb hvb rfl hn hdb) pa_nil h2) h1) (he := h1) (hpl := hpl)) fun σ H Q ⟨A, δ, ok, h⟩ => ?_, fun δ K K' hk h => he.mono _ _ _ (fun d ⟨r, e, q⟩ => ⟨r, e, hk _ q⟩) h⟩
  refine ⟨A, δ, ok, he.mono _ _ _ (fun d ⟨r, e, q⟩ v H1 e1 j1 r1 => ?_) h⟩
  obtain ⟨a, ea, ek⟩ := hf d r e
  have t := r1.tyX ea
  rw [z.hK] at t
  exact ⟨v, .ty bT, .type a, .type bT, r, rfl, .ty _, t, kit_ty ek, q _ H1 e1 j1 (.bl r)⟩
/-- isinstance(e, (list, tuple)) -/
theorem de_isSeq (z : Cb X g) {p3 p4 : Pos} {k} (hg : Gl X "isinstance") (hm : X.mg "isinstance" = none) (he : DE X g e te) (hgl : Gl X "list") (hml : X.mg "list" = none) (hgt : Gl X "tuple") (hmt : X.mg "tuple" = none)
    (h1 : starEach [e, .Tuple [.Name "list" p2, .Name "tuple" p3] k p4] X.env = (false, eval e X.env) :: starEach [.Tuple [.Name "list" p2, .Name "tuple" p3] k p4] X.env := by rfl) (h2 : starEach [.Tuple [.Name "list" p2, .Name "tuple" p3] k p4] X.env = (false, eval (.Tuple [.Name "list" p2, .Name "tuple" p3] k p4) X.env) :: starEach [] X.env := by rfl)
    (h3 : starEach [.Name "list" p2, .Name "tuple" p3] X.env = (false, eval (.Name "list" p2) X.env) :: starEach [.Name "tuple" p3] X.env := by rfl) (h4 : starEach [.Name "tuple" p3] X.env = (false, eval (.Name "tuple" p3) X.env) :: starEach [] X.env := by rfl)
    (hpl : (backTo pos (starEach [.Tuple [.Name "list" p2, .Name "tuple" p3] k p4] X.env)).any (·.1) = false := by rfl) :
    DE X g (.Call (.Name "isinstance" p) [e, .Tuple [.Name "list" p2, .Name "tuple" p3] k p4] [] pos) (kIsi isSeqD te) := by
  refine ⟨PE.weak (pe_callB call_isiT hg hm (by rfl) (pa_cons he.pe (pa_cons (pe_tup (pa_cons (pe_bltn (v := .ty "list") hgl hml (by rfl) rfl) (pa_cons (pe_bltn (v := .ty "tuple") hgt hmt (by rfl) rfl) pa_nil h4) h3)) pa_nil h2) h1) (he := h1) (hpl := hpl)) fun σ H Q ⟨A, δ, ok, h⟩ => ?_, fun δ K K' hk h => he.mono _ _ _ (fun d ⟨r, e, q⟩ => ⟨r, e, hk _ q⟩) h⟩
  refine ⟨A, δ, ok, he.mono _ _ _ (fun d ⟨r, e, q⟩ v H1 e1 j1 r1 => ?_) h⟩
  refine ⟨by show 2 ≤ sizeLine; rw [sizeLine_eq]; decide, fun tp htp => ?_⟩
  have r2 := r1.ext (Ext.new (F := g.bar A) (o := .tup [.ty "list", .ty "tuple"]) htp)
  have fin : ∀ a, tyN d = some a → PySem.W.kitAny X.K (.type a) [.type "list", .type "tuple"] = some r → rIsiT X.K [v, .ref tp] (upd H1 tp (.tup [.ty "list", .ty "tuple"])) Q := fun a ea ek => by
    have t := r2.tyX ea
    rw [z.hK] at t
    exact ⟨v, tp, _, .type a, _, r, rfl, upd_same, .cons (.ty _) (.cons (.ty _) .nil), t, ek, q _ _ (e1.trans (Ext.new htp)) (j1.new htp) (.bl r)⟩
  cases d with
  | non => cases e; exact fin _ rfl (kitAny_cons (kit_ty (r := false) (by decide +kernel)) (fun _ => kitAny_cons (kit_ty (r := false) (by decide +kernel)) (fun _ => rfl) (fun h => by cases h)) fun h => by cases h)
  | bl b => cases e; exact fin _ rfl (kitAny_cons (kit_ty (r := false) (by decide +kernel)) (fun _ => kitAny_cons (kit_ty (r := false) (by decide +kernel)) (fun _ => rfl) (fun h => by cases h)) fun h => by cases h)
  | int b => cases e; exact fin _ rfl (kitAny_cons (kit_ty (r := false) (by decide +kernel)) (fun _ => kitAny_cons (kit_ty (r := false) (by decide +kernel)) (fun _ => rfl) (fun h => by cases h)) fun h => by cases h)
  | str b => cases e; exact fin _ rfl (kitAny_cons (kit_ty (r := false) (by decide +kernel)) (fun _ => kitAny_cons (kit_ty (r := false) (by decide +kernel)) (fun _ => rfl) (fun h => by cases h)) fun h => by cases h)
  | dct b => cases e; exact fin _ rfl (kitAny_cons (kit_ty (r := false) (by decide +kernel)) (fun _ => kitAny_cons (kit_ty (r := false) (by decide +kernel)) (fun _ => rfl) (fun h => by cases h)) fun h => by cases h)
  | tup b => cases e; exact fin _ rfl (kitAny_cons (kit_ty (r := false) (by decide +kernel)) (fun _ => kitAny_cons (kit_ty (r := true) (by decide +kernel)) (fun h => by cases h) fun _ => rfl) fun h => by cases h)
  | lst b => cases e; exact fin _ rfl (kitAny_cons (kit_ty (r := true) (by decide +kernel)) (fun h => by cases h) fun _ => rfl)
  | _ => cases e
end
/-! ### repr -/
def flatPy : D → Option PyData
  | .non => some .none
  | .bl b => some (.bool b)
  | .int i => some (.int i)
  | .str s => some (.str s)
  | _ => none
def keyPy : Key → PyData
  | .inl i => .int i
  | .inr s => .str s
def flatKv : List (Key × D) → Option (List (PyData × PyData))
  | [] => some []
  | (k, d) :: r => (flatPy d).bind fun p => (flatKv r).map fun ps => (keyPy k, p) :: ps
def reprD : D → Option PyData
  | .dct kvs => (flatKv kvs).map .dict
  | d => toPy d
def kRepr : List D → (D → Prop) → Prop := fun ds K => ∃ d p, ds = [d] ∧ reprD d = some p ∧ (p.showable = true ∧ p.depth ≤ 20 ∧ p.shown.length ≤ sizeLine) ∧ K (.str p.shown)
theorem mRepr : MonoL kRepr := fun ds K K' h ⟨d, p, e1, e2, e3, q⟩ => ⟨d, p, e1, e2, e3, h _ q⟩
/-- what repr takes, by values -/
def rRepr (K : PySem.W.Frag) : List V → Hp → VK → Prop := fun xs H Q => ∃ v p, xs = [v] ∧ (Dp K H v p ∨ ∃ a kvs ps, v = .ref a ∧ H a = some (.dK kvs) ∧ p = .dict ps ∧ Paired (fun (x : Key × V) (y : PyData × PyData) => y.1 = keyPy x.1 ∧ Dp K H x.2 y.2 ∧ ∀ b, x.2 ≠ .ref b) kvs ps) ∧
  (p.showable = true ∧ p.depth ≤ 20 ∧ p.shown.length ≤ sizeLine) ∧ Q (.str p.shown) H
section
variable {X : Cx} {pins : List (Addr × Obj)} {σ : L2.St} {H : Hp} {s : Shared}
theorem key_reads {h : Heap} {k : Key} {u : Value} (e : keyIs k u = true) : Reads h u (keyPy k) [] := by
  rcases keyIs_shape e with ⟨i, t, e3, e4⟩ | ⟨x, t, e3, e4⟩
  · rw [e3, e4]; exact .int i t
  · rw [e3, e4]; exact .str x t
theorem flat_reads {h : Heap} {K : PySem.W.Frag} {H : Hp} {v : V} {p : PyData} {u : Value} (d : Dp K H v p) (r : RelV v u) (n : ∀ b, v ≠ .ref b) : Reads h u p [] := by
  cases d with
  | non => cases r; exact .none
  | bl b => cases r; exact .bool b
  | int i => obtain ⟨t, r⟩ := r; rw [r]; exact .int i t
  | str x => obtain ⟨t, r⟩ := r; rw [r]; exact .str x t
  | lst _ _ => exact (n _ rfl).elim
  | tup _ _ => exact (n _ rfl).elim
theorem dict_reads {P : Program} {w : World} {h : Heap} {K : PySem.W.Frag} {H : Hp} : ∀ {es : List DictEntry} {vs : List (Key × Value)} {kvs : List (Key × V)} {ps : List (PyData × PyData)}, Pairs (mixKind P w) es vs → KV kvs vs → Paired (fun (x : Key × V) (y : PyData × PyData) => y.1 = keyPy x.1 ∧ Dp K H x.2 y.2 ∧ ∀ b, x.2 ≠ .ref b) kvs ps →
    ReadsAll h (es.map (·.key)) (ps.map (·.1)) [] ∧ ReadsAll h (es.map (·.val)) (ps.map (·.2)) []
  | [], _, _, _, .nil, r, h => by
    cases r
    cases h
    exact ⟨.nil, .nil⟩
  | e :: es, kv :: vs, x :: kvs, y :: ps, .cons hk hv hr, .cons r1 r2, .cons h1 h2 => by
    obtain ⟨q1, q2⟩ := dict_reads (h := h) hr r2 h2
    refine ⟨ReadsAll.cons (as := []) (bs := []) ?_ q1, ReadsAll.cons (as := []) (bs := []) ?_ q2⟩
    · show Reads h e.key y.1 []
      rw [h1.1, r1.1]; exact key_reads hk
    · show Reads h e.val y.2 []
      rw [hv]; exact flat_reads h1.2.1 r1.2 h1.2.2
end
mutual
theorem nodict {K : PySem.W.Frag} {H : Hp} {v : V} : ∀ p : PyData, Dp K H v p → p.hasDict = false
  | .none, _ => rfl
  | .bool _, _ => rfl
  | .int _, _ => rfl
  | .str _, _ => rfl
  | .list ds, h => by
    cases h with
    | lst _ ha => exact nodicts ds ha
  | .tuple ds, h => by
    cases h with
    | tup _ ha => exact nodicts ds ha
  | .dict _, h => by cases h
theorem nodicts {K : PySem.W.Frag} {H : Hp} {vs : List V} : ∀ ps : List PyData, DpAll K H vs ps → PyData.hasDictAll ps = false
  | [], _ => rfl
  | p :: ps, h => by
    cases h with
    | cons h1 h2 => simp only [PyData.hasDictAll, nodict p h1, nodicts ps h2, Bool.or_false]
end
theorem call_reprD {X : Cx} (hu : X.A.units + 64 < cLine) (hg : X.A.guards = some []) : CallR X (.builtin "repr") (rRepr X.K) := by
  intro pins s σ H xs us Q I r h
  obtain ⟨v, p, rfl, hv, ⟨h1, h2, h3⟩, q⟩ := h
  obtain ⟨u, rfl, r1⟩ := vals1 r
  have fin : ∀ h' (tu : Tok) tk, (∀ b o, s.heap.get? b = some o → h'.get? b = some o) → EP X pins σ Q (.str p.shown tu) { s with heap := h', toks := tk } := fun h' tu tk k => ⟨.str p.shown, H, I.kept (t' := tk) k, ⟨_, rfl⟩, q⟩
  have fin0 : EP X pins σ Q (.str p.shown s.toks) { s with toks := s.toks + 1 } := ⟨.str p.shown, H, I.tok _, ⟨_, rfl⟩, q⟩
  rcases hv with hv | ⟨a, kvs, ps, rfl, ha, rfl, hp⟩
  · have hd : ∀ a u', v = .ref a → RelV v u' → ∃ as, Reads s.heap u' p as := fun a u' _ r => Dp.reads I p v u' hv r
    cases hv with
    | non => cases r1; exact PySem.P.repr_of_none fin0
    | bl b => cases r1; exact PySem.P.repr_of_bool (by cases b <;> exact fin0)
    | int i => obtain ⟨t, rfl⟩ := r1; exact PySem.P.repr_of_int (of_decide_eq_true h1) fin0
    | str x => obtain ⟨t, rfl⟩ := r1; exact PySem.P.repr_of_str fin0 h3
    | @lst a xs ds hs ha =>
      cases r1
      have HV : Dp X.K H (.ref a) (.list ds) := .lst hs ha
      obtain ⟨as, hr⟩ := hd a _ rfl rfl
      exact repr_of_reads' hr h1 (PyData.noDict_hsm (nodict _ HV)) hg (by omega) (fun _ _ e => e) (fun h' tu tk k => fin h' tu tk k) h3
    | @tup a xs ds hs ha =>
      cases r1
      have HV : Dp X.K H (.ref a) (.tuple ds) := .tup hs ha
      obtain ⟨as, hr⟩ := hd a _ rfl rfl
      exact repr_of_reads' hr h1 (PyData.noDict_hsm (nodict _ HV)) hg (by omega) (fun _ _ e => e) (fun h' tu tk k => fin h' tu tk k) h3
  · cases r1
    obtain ⟨z, hsm, vs, rel, o, es, ep, g1, g2, g3, g4, g5, g6⟩ := dk_of I.hok ha
    obtain ⟨q1, q2⟩ := dict_reads (h := s.heap) g5 rel hp
    exact repr_of_reads' (Reads.dict g1 g2.1 g3 q1 q2) h1 (fun _ hm => by
      have e : sysModules = a := by simpa using hm
      rw [e] at hsm
      simp at hsm) hg (by omega) (fun _ _ e => e) (fun h' tu tk k => fin h' tu tk k) h3

theorem flat_dp {c : Cn} {F : Addr → Prop} {H : Hp} {v : V} {d : D} {p : PyData} (r : Rep c F H v d) (e : flatPy d = some p) : Dp c.K H v p ∧ ∀ b, v ≠ .ref b := by
  cases r <;> first
    | (cases e; exact ⟨.non, fun b z => nomatch z⟩)
    | (cases e; exact ⟨.bl _, fun b z => nomatch z⟩)
    | (cases e; exact ⟨.int _, fun b z => nomatch z⟩)
    | (cases e; exact ⟨.str _, fun b z => nomatch z⟩)
    | cases e
theorem kv_dp {c : Cn} {F : Addr → Prop} {H : Hp} : ∀ {vs : List (Key × V)} {ds : List (Key × D)} {ps : List (PyData × PyData)}, RepK c F H vs ds → flatKv ds = some ps → Paired (fun (x : Key × V) (y : PyData × PyData) => y.1 = keyPy x.1 ∧ Dp c.K H x.2 y.2 ∧ ∀ b, x.2 ≠ .ref b) vs ps
  | _, _, _, .nil, e => by
    cases e
    exact .nil
  | _, _, _, .cons r rs, e => by
    unfold flatKv at e
    rw [Option.bind_eq_some_iff] at e
    obtain ⟨p, e1, e⟩ := e
    rw [Option.map_eq_some_iff] at e
    obtain ⟨ps, e2, e⟩ := e
    subst e
    obtain ⟨h1, h2⟩ := flat_dp r e1
    exact .cons ⟨rfl, h1, h2⟩ (kv_dp rs e2)
theorem cRepr {X : Cx} {g : Gh} (hK : g.K = X.K) : CallD g (rRepr X.K) kRepr := fun A δ σ H vs ds Q ok r ⟨d, p, e1, e2, e3, q⟩ => by
  subst e1
  obtain ⟨v, e, r1⟩ := one_rep r
  subst e
  refine ⟨v, p, rfl, ?_, e3, q _ H (Ext.refl _ _) ok.jd (.str _)⟩
  rw [← hK]
  cases d with
  | dct kvs =>
    cases r1 with
    | @dct a vs _ h1 h2 h3 =>
      have e2 : (flatKv kvs).map PyData.dict = some p := e2
      rw [Option.map_eq_some_iff] at e2
      obtain ⟨ps, e4, e5⟩ := e2
      exact .inr ⟨a, vs, ps, rfl, h1, e5.symm, kv_dp h3 e4⟩
  | _ => exact .inl (r1.dp e2)
theorem de_repr {X : Cx} {g : Gh} {p pos : Pos} {e : Expr} {es : List Expr} {u : TDA} (z : Cb X g) (hg : Gl X "repr") (hm : X.mg "repr" = none) (ha : DA X g (e :: es) u) (he : starEach (e :: es) X.env = (false, eval e X.env) :: starEach es X.env := by rfl) (hpl : (backTo pos (starEach es X.env)).any (·.1) = false := by rfl) :
    DE X g (.Call (.Name "repr" p) (e :: es) [] pos) (dB kRepr u) := de_callB (call_reprD z.hu z.gd) (cRepr z.hK) mRepr hg hm (by rfl) ha (he := he) (hpl := hpl)
end DL

set_option Elab.async false
set_option linter.all false
set_option maxRecDepth 100000
set_option maxHeartbeats 8000000
/-! DL12: errors at hand: isinstance, fields; defs called in an except suite. -/
namespace DL
open PySem PySem.Spec PyProof.Rows L2
/-- the package's errors, their fields -/
def XN : List Str := ["PowerError", "BadNumber", "BadRow", "BadTable", "BadBook", "BadName", "BadText", "NoPlace", "NoName", "TakenName", "Unlike", "NotThere", "TooMany", "NotKept", "NothingToUndo", "NothingToRedo"]
def XF : List Str := ["what", "number", "row", "name", "line", "word", "index", "paper", "many", "limit", "promise", "witness"]
/-- is an error of the class a one of the class b -/
def isaN (a b : Str) : Bool := decide (a = b) || decide (b = "PowerError")
/-- what is known of the class at C -/
structure XK1 (K : PySem.W.Frag) (mg : Str → Option Value) (x : Str) (C : Addr) : Prop where
  ec : ExcC K C
  cl : (PySem.W.clsIn K C).isSome = true
  isa : ∀ n ∈ XN, ∀ E : Addr, mg n = some (.ref E) → PySem.W.kitOne K (.ref C) (.ref E) = some (isaN x n)
  isv : PySem.W.kitOne K (.ref C) (.type "ValueError") = some true
  nof : ∀ f ∈ XF, PySem.W.findIn K (.ref C) f = some none
  exm : ∀ E : Addr, mg "PowerError" = some (.ref E) → PySem.W.exmOne K (.ref C) (.ref E) = some true
abbrev XAll (K : PySem.W.Frag) (mg : Str → Option Value) : Prop := ∀ x ∈ XN, ∀ C : Addr, mg x = some (.ref C) → XK1 K mg x C
/-- the frame knows the error at a -/
structure Ch (X : Cx) (g : Gh) (a : Addr) (x : Exc) (k : Nat) : Prop where
  b : Cb X g
  xa : XAll X.K X.mg
  mem : x.cls ∈ XN
  pin : ∃ (oe : Obj) (C : Addr) (dx : Option Addr), (a, oe) ∈ X.pn ∧ Zc (.ref C) dx oe ∧ L2H.Hot1 X.A (a, oe) ∧ RepX g.toCn g.F g.H0 (.ref C) dx x
  room : L2H.RoomH k X.A
section
variable {X : Cx} {g : Gh} {a : Addr} {x : Exc} {k : Nat} {p pos p2 : Pos} {e : Expr} {te : TD}
theorem Ch.cls (c : Ch X g a x k) {C : Addr} (h : g.mg x.cls = some (.ref C)) : XK1 X.K X.mg x.cls C := c.xa _ c.mem C (by rw [← c.b.hmg]; exact h)
/-- the object at hand, as it stands -/
theorem inst_of {P : Program} {w : World} {h : Heap} {H : Hp} {oe : Obj} {C : Addr} {dx : Option Addr} (hok : HOk P w H h) (ha : h.get? a = some oe) (hz : Zc (.ref C) dx oe) (hf : ∃ vs, oe.data = .fields vs) (hd : ∀ dd, dx = some dd → ∃ fs, H dd = some (.xd fs)) : ∃ od, PySem.W.InstAt h a oe C od := by
  obtain ⟨vs, hv⟩ := hf
  obtain ⟨h1, h2⟩ := hz
  have hno : PySem.W.notCls oe = true := by unfold PySem.W.notCls; rw [hv] <;> rfl
  cases dx with
  | none => exact ⟨none, ha, h1, hno, by rw [h2]; trivial⟩
  | some dd =>
    obtain ⟨fs, e⟩ := hd dd rfl
    obtain ⟨mA, hns, hr⟩ := (show ObjOk P w H h dd (.xd fs) from hok dd _ e)
    obtain ⟨od, ho, hl⟩ := lookIn_ns hns
    exact ⟨some od, ha, h1, hno, by rw [h2]; exact ho⟩
/-- what is known of the error now -/
theorem RepX.now {A : List Addr} {δ : List Slot} {σ : L2.St} {H : Hp} (ok : Ok g A δ σ H) {cls : Value} {dx : Option Addr} (r : RepX g.toCn g.F g.H0 cls dx x) : RepX g.toCn (g.bar A) H cls dx x := by
  have r1 : RepX g.toCn (g.bar A) g.H0 cls dx x := by
    obtain ⟨C, e1, e2, h⟩ := r
    refine ⟨C, e1, e2, h.imp id fun ⟨d, fs, a1, a2, a3, a4, a5⟩ => ⟨d, fs, a1, a2, fun z => ?_, fun f y q => ?_, a5⟩⟩
    · rcases z with z | z
      · exact a3 z
      · exact (ok.new d z).no a2 fun ps z => nomatch z
    · obtain ⟨v, q1, q2⟩ := a4 f y q
      exact ⟨v, q1, q2.anti fun b hb => hb.imp id fun z => ok.new b z⟩
  exact r1.ext (ok.ext.mono fun b h => .inl (ok.fW b h))
def dIsX (te : TD) (a : Addr) (r : Bool) : TD := fun δ K => te δ fun d => d = .ptr a ∧ K (.bl r)
/-- isinstance(e, c): c a class, by its value -/
theorem de_isXv (c : Ch X g a x k) {ce : Expr} {cv : V} {u : Value} {r : Bool} (hc : PE X ce (tC cv)) (hcv : ∀ w, RelV cv w → w = u) (hr : ∀ C, g.mg x.cls = some (.ref C) → PySem.W.kitOne X.K (.ref C) u = some r) (hg : Gl X "isinstance") (hm : X.mg "isinstance" = none) (he : DE X g e te)
    (h1 : starEach [e, ce] X.env = (false, eval e X.env) :: starEach [ce] X.env := by rfl) (h2 : starEach [ce] X.env = (false, eval ce X.env) :: starEach [] X.env := by rfl) (hpl : (backTo pos (starEach [ce] X.env)).any (·.1) = false := by rfl) :
    DE X g (.Call (.Name "isinstance" p) [e, ce] [] pos) (dIsX te a r) := by
  have cr : CallR X (.builtin "isinstance") (fun xs H Q => ∃ A δ σ, Ok g A δ σ H ∧ xs = [.ref a, cv] ∧ Q (.bl r) H) := by
    intro pins s σ H xs us Q I rr ⟨A, δ, σ', ok, ex, q⟩
    subst ex
    obtain ⟨u1, u2, rfl, r1, r2⟩ := vals2 rr
    cases r1
    have e2 := hcv _ r2
    subst e2
    obtain ⟨oe, C, dx, hp, hz, ⟨hh, vs, hv, hv2⟩, rx⟩ := c.pin
    have P1 := I.pin (a, oe) (List.mem_append_left _ hp)
    obtain ⟨C', e1, e3, rx2⟩ := rx.now ok
    cases e1
    obtain ⟨od, J⟩ := inst_of I.hok P1.1 hz ⟨vs, hv⟩ (fun dd hd => by
      rcases rx2 with ⟨_, z⟩ | ⟨d, fs, z, z2, _⟩
      · rw [z] at hd; cases hd
      · rw [z] at hd; cases hd; exact ⟨fs, z2⟩)
    have k1 := c.cls e3
    exact PySem.W.kia_one (PySem.W.kitx_exc k1.cl k1.ec.hg k1.ec.hk k1.ec.hs k1.ec.ha k1.ec.hn k1.ec.ht k1.ec.hm) I.kIn J (hr C e3) (fun z => nomatch z) fun tk => ⟨.bl r, H, I.kept (t' := tk) fun _ _ z => z, rfl, q⟩
  refine ⟨PE.weak (pe_callB cr hg hm (by rfl) (pa_cons he.pe (pa_cons hc pa_nil h2) h1) (he := h1) (hpl := hpl)) fun σ H Q ⟨A, δ, ok, h⟩ => ?_, fun δ K K' hk h => he.mono _ _ _ (fun d ⟨e, q⟩ => ⟨e, hk _ q⟩) h⟩
  refine ⟨A, δ, ok, he.mono _ _ _ (fun d ⟨e, q⟩ v H1 e1 j1 r1 => ?_) h⟩
  subst e
  cases r1
  exact ⟨A, δ, σ, ok.step e1 j1, rfl, q _ H1 e1 j1 (.bl r)⟩
theorem de_isX (c : Ch X g a x k) {n : Str} {E : Addr} (hn : n ∈ XN) (hgn : Gl X n) (hmn : X.mg n = some (.ref E)) (hg : Gl X "isinstance") (hm : X.mg "isinstance" = none) (he : DE X g e te) (hdb : (n == ("__debug__" : Str)) = false := by decide)
    (h1 : starEach [e, .Name n p2] X.env = (false, eval e X.env) :: starEach [.Name n p2] X.env := by rfl) (h2 : starEach [.Name n p2] X.env = (false, eval (.Name n p2) X.env) :: starEach [] X.env := by rfl) (hpl : (backTo pos (starEach [.Name n p2] X.env)).any (·.1) = false := by rfl) :
    DE X g (.Call (.Name "isinstance" p) [e, .Name n p2] [] pos) (dIsX te a (isaN x.cls n)) :=
  de_isXv c (u := .ref E) (pe_glob (v := .ref E) hgn hmn rfl hdb) (fun w h => h) (fun C hC => (c.cls hC).isa n hn E hmn) hg hm he h1 h2 hpl
theorem de_isXV (c : Ch X g a x k) (hgn : Gl X "ValueError") (hmn : X.mg "ValueError" = none) (hg : Gl X "isinstance") (hm : X.mg "isinstance" = none) (he : DE X g e te)
    (h1 : starEach [e, .Name "ValueError" p2] X.env = (false, eval e X.env) :: starEach [.Name "ValueError" p2] X.env := by rfl) (h2 : starEach [.Name "ValueError" p2] X.env = (false, eval (.Name "ValueError" p2) X.env) :: starEach [] X.env := by rfl) (hpl : (backTo pos (starEach [.Name "ValueError" p2] X.env)).any (·.1) = false := by rfl) :
    DE X g (.Call (.Name "isinstance" p) [e, .Name "ValueError" p2] [] pos) (dIsX te a true) :=
  de_isXv c (u := .type "ValueError") (pe_bltn (v := .ty "ValueError") hgn hmn (by rfl) rfl) (fun w h => h) (fun C hC => (c.cls hC).isv) hg hm he h1 h2 hpl
/-- e.f -/
def dXf (te : TD) (a : Addr) (x : Exc) (f : Str) : TD := fun δ K => te δ fun d => d = .ptr a ∧ ∃ y, x.fs.lookup f = some y ∧ K y
theorem de_xf (c : Ch X g a x k) {f : Str} (hf : f ∈ XF) (he : DE X g e te) (hb : attributeBase e f X.env (eval e X.env) = eval e X.env := by rfl) : DE X g (.Attribute e f pos) (dXf te a x f) := by
  refine ⟨⟨fun pins s σ H Q I ⟨A, δ, ok, h⟩ => ?_⟩, fun δ K K' hk h => he.mono _ _ _ (fun d ⟨e, y, l, q⟩ => ⟨e, y, l, hk _ q⟩) h⟩
  refine attr_of hb (thn (he.pe.run pins s σ H (fun v H1 => ∃ y : D, v = .ref a ∧ Ok g A δ σ H1 ∧ x.fs.lookup f = some y ∧ (∀ v', Rep g.toCn (g.bar A) H1 v' y → Q v' H1)) I ?_) fun u s1 hh => ?_)
  · refine ⟨A, δ, ok, he.mono _ _ _ (fun d ⟨e, y, l, q⟩ v H1 e1 j1 r1 => ?_) h⟩
    subst e
    cases r1
    exact ⟨y, rfl, ok.step e1 j1, l, fun v' r => q v' H1 e1 j1 r⟩
  · obtain ⟨v, H1, I1, rv, y, ev, ok1, l, q⟩ := hh
    subst ev
    obtain rfl : u = Value.ref a := rv
    obtain ⟨oe, C, dx, hp, hz, ⟨hh, vs, hv, hv2⟩, rx⟩ := c.pin
    have P1 := I1.pin (a, oe) (List.mem_append_left _ hp)
    obtain ⟨C', e1, e3, rx2⟩ := rx.now ok1
    cases e1
    have k1 := c.cls e3
    rcases rx2 with ⟨z, _⟩ | ⟨d, fs, z, z2, z3, z4, z5⟩
    · rw [z] at l; cases l
    · obtain ⟨v', l2, r2⟩ := z4 f y l
      have hx : ObjOk X.prog X.w H1 s1.heap d (.xd fs) := I1.hok d _ z2
      obtain ⟨mA, hns, hr⟩ := hx
      obtain ⟨od, ho, hl⟩ := lookIn_ns hns
      obtain ⟨u, hu, ru⟩ := RelO.some_of (v := v') (o := mA f) (by rw [← l2]; exact hr f)
      have J : PySem.W.InstAt s1.heap a oe C (some od) := ⟨P1.1, hz.1, by unfold PySem.W.notCls; rw [hv] <;> rfl, by rw [hz.2, z]; exact ho⟩
      exact HandSPX.exc_get I1.kIn J k1.ec.hg k1.ec.hk k1.ec.hs (PySem.W.findObj_own k1.ec.hd (k1.nof f hf) rfl (by rw [hl, hu])) (handed_of ru) ⟨v', H1, I1.tok _, ru, q v' r2⟩
end
end DL

set_option Elab.async false
set_option linter.all false
set_option maxRecDepth 100000
set_option maxHeartbeats 8000000
/-! DL13: defs called in an except suite; try: .. except C as e. -/
namespace DL
open PySem PySem.Spec PyProof.Rows L2
/-! ### a def called while an error is handled: it may look at it -/
structure FnX (P : Program) (w : World) (K : PySem.W.Frag) (mg : Str → Option Value) (base : Heap) (k : Nat) (f : Addr) (fd : FuncData) (ps : List Str) (sp : Addr → Obj → Sp) : Prop where
  len : ∀ a o vs H Q E, sp a o vs H Q E → vs.length = ps.length
  run : ∀ (A : Around) (outer : List Env) (s : Shared) (H : Hp) (args : Args) (us : List Value) (vs : List V) (Q : VK) (E : XK) (p : Addr × Obj), L2H.RoomH k A → A.guards = some [] → L2H.Hot1 A p → L2H.PinOk outer H s p → Env0 P w K mg base A outer s H → BindsTo s fd args (ps.zip us) → Vals vs us → sp p.1 p.2 vs H Q E →
    codeAny (model P w) A (.call (.ref f) args) (CR (L2N.CX P w) outer P w H s Q E) s
theorem fnX_of {P : Program} {w : World} {K : PySem.W.Frag} {mg : Str → Option Value} {base : Heap} {k : Nat} {x qual : Str} {st : Stmt} {f : Addr} {fd : FuncData} {N ps : List Str} {sp : Addr → Obj → Sp} (F : Fun K x qual st f fd) (S : FnScope N ps (defScope st))
    (len : ∀ a o vs H Q E, sp a o vs H Q E → vs.length = ps.length)
    (hbody : ∀ (cdv : Value) (A : Around) (outer : List Env) (s : Shared) (H : Hp) (vs : List V) (Q : VK) (E : XK) (p : Addr × Obj), L2H.Hot1 A p → L2H.RoomH k (A.deeper (envOfC qual (defScope st) s.heap.objs.size f cdv)) → A.guards = some [] → sp p.1 p.2 vs H Q E →
      ∃ t, PSs (L2H.cxH (L2N.CX P w) P w K mg base N qual (defScope st) f cdv A outer s H E p) (defBody st) t ∧ t { nx := fun _ H' => Q .non H', rt := Q } (L2.start N vs) H) : FnX P w K mg base (k + 1) f fd ps sp := by
  obtain ⟨oc, od, kV, doc, pm, an, cdv, ct, osl, rfl, lk, hcd⟩ := F.ex
  refine ⟨len, fun A outer s H args us vs Q E p hr hgd hot hpin e0 hb r hsp => ?_⟩
  have hl := len _ _ _ _ _ _ hsp
  have inK : K.In s.heap := e0.mod.kin.keeps fun b o e => (e0.bs b o e).1
  have nolim : s.heap.NoLimit := e0.mod.nolimit.keeps fun b o e => (e0.bs b o e).1
  refine codeAny_call_function hr.depth (inK _ _ lk) rfl S.co S.gen rfl (PySem.W.codeRec_of inK hcd) (hb _ _ _ _ ?_)
  refine wpAny_newFunctionEnv_cells S.kind (fun y hy => ?_) fun env he s1 ic => ?_
  · obtain ⟨n, v⟩ := y
    rcases S.par n (List.of_mem_zip hy).1 with q | q
    · exact .inl q
    · exact .inr ⟨q, PySem.W.cellsFrom_some _ _ _ (.inl q)⟩
  subst he
  refine ⟨nolim.keeps ic.toInCall.keep, codeAny_func ?_⟩
  obtain ⟨t, ht, hq⟩ := hbody cdv A outer s H vs Q E p hot (hr.deeper _) hgd hsp
  have I := L2H.inv_startH (CX := L2N.CX P w) (N := N) (qual := qual) (cd := cdv) (f := f) (E := E) S hpin e0 hl r ic
  refine wpAny_mono (ht.run [] s1 (L2.start N vs) H _ I hq) (fun fl s' hs => ?_) fun e s' hs => hs
  cases fl with
  | ret u =>
    obtain ⟨v, σ', H', J, rv, q⟩ := hs
    exact ⟨v, H', J.os, J.bare, J.base, J.hok, rv, q⟩
  | next =>
    obtain ⟨σ', H', J, q⟩ := hs
    exact ⟨.non, H', J.os, J.bare, J.base, J.hok, rfl, q⟩
  | brk =>
    obtain ⟨_, _, _, q⟩ := hs
    exact False.elim q
  | cont =>
    obtain ⟨_, _, _, q⟩ := hs
    exact False.elim q
abbrev SpecX := Exc → (D → Prop) → Prop
/-- f(e): e the error at hand -/
def SpOfX (K : PySem.W.Frag) (mg : Str → Option Value) (T : List (Addr × Str)) (S : SpecX) : Addr → Obj → Sp := fun a oe vs H Q E => ∃ (pen : Option (Addr × Addr)) (F : Addr → Prop) (C : Addr) (dx : Option Addr) (x : Exc),
  vs = [.ref a] ∧ J ⟨K, mg, pen, T⟩ H ∧ (∀ b, (⟨K, mg, pen, T⟩ : Cn).W b → F b) ∧ (∀ b, F b → ∃ o, H b = some o ∧ ∀ ps, o ≠ .tbl ps) ∧ Zc (.ref C) dx oe ∧ RepX ⟨K, mg, pen, T⟩ F H (.ref C) dx x ∧ x.cls ∈ XN ∧
  S x (fun d => ∀ v H', J ⟨K, mg, pen, T⟩ H' → Ext (⟨K, mg, pen, T⟩ : Cn).W H H' → Rep ⟨K, mg, pen, T⟩ F H' v d → Q v H')
structure DefX (P : Program) (w : World) (K : PySem.W.Frag) (mg : Str → Option Value) (base : Heap) (T : List (Addr × Str)) (k : Nat) (x : Str) (S : SpecX) : Prop where
  ex : ∃ f fd ps, mg x = some (.ref f) ∧ PySem.W.keepIn K (.ref f) = true ∧ Binds K fd ps [] ∧ FnX P w K mg base k f fd ps (SpOfX K mg T S)
  mono : ∀ x (K K' : D → Prop), (∀ d, K d → K' d) → S x K → S x K'
abbrev cxX (P : Program) (w : World) (K : PySem.W.Frag) (mg : Str → Option Value) (base : Heap) (N : List Str) (x : Str) (st : Stmt) (f : Addr) (cdv : Value) (A : Around) (outer : List Env) (s : Shared) (H : Hp) (E : XK) (p : Addr × Obj) : Cx :=
  L2H.cxH (L2N.CX P w) P w K mg base N x (defScope st) f cdv A outer s H E p
theorem defX_mk {P : Program} {w : World} {K : PySem.W.Frag} {mg : Str → Option Value} {base : Heap} {T : List (Addr × Str)} {k : Nat} {x p1 : Str} {st : Stmt} {f : Addr} {fd : FuncData} {N : List Str} {S : SpecX}
    (F : Fun K x x st f fd) (hm : mg x = some (.ref f)) (Sc : FnScope N [p1] (defScope st)) (bd : Binds K fd [p1] []) (sm : ∀ x (K K' : D → Prop), (∀ d, K d → K' d) → S x K → S x K') (xa : XAll K mg)
    (body : ∀ (cdv : Value) (A : Around) (outer : List Env) (s : Shared) (H : Hp) (E : XK) (p : Addr × Obj) (g : Gh) (a : Addr) (y : Exc), g.T = T → Ch (cxX P w K mg base N x st f cdv A outer s H E p) g a y k →
      ∃ t, DSs (cxX P w K mg base N x st f cdv A outer s H E p) g (defBody st) t ∧ ∀ (Kk : D → Prop), S y Kk → t { nx := fun _ => Kk .non, rt := Kk } (startD N [.ptr a])) : DefX P w K mg base T (k + 1) x S := by
  refine ⟨⟨f, fd, [p1], hm, F.kp, bd, ?_⟩, sm⟩
  refine fnX_of F Sc (fun a o vs H Q E h => ?_) fun cdv A outer s H vs Q E p hot hr hgd hsp => ?_
  · obtain ⟨pen, F', C, dx, x, e, _⟩ := h
    rw [e]; rfl
  · obtain ⟨pen, F', C, dx, y, ev, j, fw, hfd, hz, rx, hy, hS⟩ := hsp
    let g : Gh := { K := K, mg := mg, pen := pen, T := T, F := F', H0 := H, V := (⟨K, mg, pen, T⟩ : Cn).W }
    have c : Ch (cxX P w K mg base N x st f cdv A outer s H E p) g p.1 y k :=
      ⟨⟨rfl, rfl, by have := hr.un; show (A.deeper _).units + 64 < _; omega, hgd, Sc.nd⟩, xa, hy, ⟨p.2, C, dx, List.mem_singleton.mpr rfl, hz, hot, rx⟩, hr⟩
    obtain ⟨t, ht, hq⟩ := body cdv A outer s H E p g p.1 y rfl c
    refine ⟨_, ht.pss, [], startD N [.ptr p.1], ?_, ?_⟩
    · refine ⟨j.cellsAt, j.jd, fun _ h => h, Ext.refl _ _, fw, hfd, (fun b hb => by cases hb), (fun b hb => by cases hb), [], List.nodup_nil, (fun b hb => by cases hb), ?_⟩
      subst ev
      unfold startD L2.start
      exact slots_start _ (.cons (.ptr _) .nil)
    · refine ht.mono _ _ _ ⟨fun δ h σ' A' H' ok' l' => ?_, fun d h v H' j' e' r' => ?_, fun δ h => (show False from h).elim, fun δ h => (show False from h).elim⟩ (hq _ hS)
      · exact h .non H' ok'.J ok'.ext .non
      · exact h v H' j' e' r'
def dCallX (S : SpecX) (x : Exc) (a : Addr) (te : TD) : TD := fun δ K => te δ fun d => d = .ptr a ∧ S x K
theorem de_callX {X : Cx} {g : Gh} {a : Addr} {x : Exc} {j k : Nat} {n : Str} {S : SpecX} {e : Expr} {te : TD} {q pos : Pos} (c : Ch X g a x j) (d : DefX X.prog X.w X.K X.mg X.base g.T k n S) (hk : k ≤ j) (hg : Gl X n) (ha : DE X g e te)
    (hdb : (n == ("__debug__" : Str)) = false := by decide) (he : starEach (e :: []) X.env = (false, eval e X.env) :: starEach [] X.env := by rfl) (hpl : (backTo pos (starEach [] X.env)).any (·.1) = false := by rfl) : DE X g (.Call (.Name n q) [e] [] pos) (dCallX S x a te) := by
  obtain ⟨f, fd, ps, hm, hkp, hb, F⟩ := d.ex
  refine ⟨⟨fun pins s σ H Q I ⟨A, δ, ok, h⟩ => ?_⟩, fun δ K K' hk' h => ha.mono _ _ _ (fun d' ⟨e, hd⟩ => ⟨e, d.mono _ _ _ hk' hd⟩) h⟩
  refine wpAny_Call_Name_kw (ld_glob I hg hm ?_ hdb)
  have pa := pa_cons ha.pe pa_nil he
  refine PySem.W.callWith_K (h₀ := X.base) I.ok.mod.kin hkp (thn (pa.run pos pins s σ H (fun vs H2 => vs = [.ref a] ∧ Ok g A δ σ H2 ∧ S x (Post g A H2 Q)) I ?_) fun us s1 ⟨vs, H1, I1, r, z⟩ => ⟨I1.kIn, ?_⟩) he hpl
  · refine ⟨A, δ, ok, ha.mono _ _ _ (fun d' ⟨e, hd⟩ v H1 e1 j1 r1 => ?_) h⟩
    subst e
    cases r1
    exact ⟨rfl, ok.step e1 j1, d.mono _ _ _ (fun d hd => Post.step e1 hd) hd⟩
  · obtain ⟨ev, ok1, hS⟩ := z
    subst ev
    obtain ⟨oe, C, dx, hp, hz, hot, rx⟩ := c.pin
    have P1 := I1.pin (a, oe) (List.mem_append_left _ hp)
    have hpin : L2H.PinOk X.stack H1 s1 (a, oe) := ⟨P1.1, P1.2.1, fun hm => (List.mem_cons.mp (I1.stkSub a hm)).elim P1.2.2.1 P1.2.2.2.1, P1.2.2.2.2⟩
    have ec : (⟨X.K, X.mg, g.pen, g.T⟩ : Cn) = g.toCn := by rw [← c.b.hK, ← c.b.hmg]
    have hsp : SpOfX X.K X.mg g.T S a oe [.ref a] H1 Q (fun _ _ _ => False) := by
      refine ⟨g.pen, g.bar A, C, dx, x, rfl, ?_⟩
      rw [ec]
      exact ⟨ok1.J, fun b hb => .inl (ok1.fW b (ok1.wV b hb)), ok1.W0, hz, rx.now ok1, c.mem, d.mono _ _ _ (fun d hd v H' j e rv => hd v H' (e.mono ok1.wV) j.jd rv) hS⟩
    have hl : us.length = ps.length := by rw [← r.length]; exact F.len a oe _ _ _ _ hsp
    have b := hb s1 us I1.kIn (by rw [List.append_nil]; exact hl)
    rw [List.append_nil] at b
    refine wpAny_call (codeAny_mono (F.run X.A X.stack s1 H1 ⟨us, []⟩ us [.ref a] Q (fun _ _ _ => False) (a, oe) (c.room.mono hk) c.b.gd hot hpin I1.env0 b r hsp) fun rr s' hq => ?_)
    cases rr with
    | error e =>
      obtain ⟨_, _, _, _, _, _, _, _, _, _, _, _, hE⟩ := hq
      exact hE.elim
    | ok fl =>
      cases fl with
      | ret u => exact I1.after hq
      | next => exact False.elim hq
      | brk => exact False.elim hq
      | cont => exact False.elim hq
end DL

set_option Elab.async false
set_option linter.all false
set_option maxRecDepth 100000
set_option maxHeartbeats 8000000
/-! DL14: try: .. except C as e: .. -/
namespace DL
open PySem PySem.Spec PyProof.Rows L2
/-- the frame seen from here on -/
def Gh.at (g : Gh) (A : List Addr) (H : Hp) : Gh := { g with F := g.bar A, H0 := H }
def plainS (δ : List Slot) : Bool := δ.all fun s => match s with
  | .own _ => false
  | .ownD _ => false
  | _ => true
section
variable {g : Gh} {A A2 : List Addr} {δ δ2 : List Slot} {σ σ2 : L2.St} {H H2 : Hp}
theorem Slots.plain {c : Cn} {Fb : Addr → Prop} : ∀ {As : List Addr} {δ : List Slot} {σ : L2.St}, Slots c Fb H As δ σ → plainS δ = true → Slots c Fb H [] δ σ := by
  intro As δ σ s
  induction s with
  | nil => intro _; exact .nil
  | un _ ih => intro p; exact .un (ih (by simpa [plainS] using p))
  | val r _ ih => intro p; exact .val r (ih (by simpa [plainS] using p))
  | own _ _ _ _ => intro p; simp [plainS] at p
  | ownD _ _ _ _ => intro p; simp [plainS] at p
theorem Ok.cells (ok : Ok g A δ σ H) : ∀ a l, g.pen = some (a, l) → (∃ ns : List Int, ∀ H, SqL g.K H l (ns.map V.int)) ∨ (¬ g.V l ∧ ∃ ns : List Int, Rd H l (.lst (ns.map V.int))) := fun a l e => by
  rcases ok.cl a l e with q | ⟨nv, ns, q⟩
  · exact .inl q
  · exact .inr ⟨nv, ns, ok.ext.rd q nv fun ps z => nomatch z⟩
theorem Ok.root (ok : Ok g A δ σ H) (p : plainS δ = true) : Ok (g.at A H) [] δ σ H := by
  obtain ⟨As, nd, sub, sl⟩ := ok.sl
  exact ⟨ok.cells, ok.jd, ok.wV, Ext.refl _ _, fun b hb => .inl (ok.fW b hb), ok.W0, (fun b hb => by cases hb), (fun b hb => by cases hb), [], List.nodup_nil, (fun b hb => by cases hb), Slots.anti (fun b hb => hb.elim .inl fun z => by cases z) (sl.plain p)⟩
theorem Ok.back (ok2 : Ok (g.at A H) A2 δ2 σ2 H2) (ok : Ok g A δ σ H) : Ok g (A2 ++ A) δ2 σ2 H2 ∧ Later g A H (A2 ++ A) H2 := by
  obtain ⟨As, nd, sub, sl⟩ := ok2.sl
  have e2 : Ext g.V H H2 := ok2.ext
  refine ⟨⟨ok.cl, ok2.jd, ok.wV, ok.ext.trans e2, ok.fW, ok.fd, fun b hb => ?_, fun b hb => ?_, As, nd, fun b hb => List.mem_append_left _ (sub b hb), Slots.anti (fun b hb => ?_) sl⟩, ⟨e2.mono fun b h => .inl (ok.fW b h), fun b hb => ?_⟩⟩
  · rcases List.mem_append.mp hb with z | z
    · exact ok.ext.dom b (ok2.new b z)
    · exact ok.new b z
  · rcases List.mem_append.mp hb with z | z
    · exact ok2.tk b z
    · obtain ⟨o, q, t⟩ := ok.tk b z
      exact ⟨o, e2.keep b o q (ok.noW b z) t, t⟩
  · rcases hb with z | z
    · exact .inl (.inl (.inl z))
    · rcases List.mem_append.mp z with z | z
      · exact .inl (.inr z)
      · exact .inl (.inl (.inr z))
  · rcases List.mem_append.mp hb with z | z
    · exact .inr (ok2.new b z)
    · exact .inl z
/-- g1 is g seen anew at some later moment -/
structure Desc (g g1 : Gh) : Prop where
  cn : g1.toCn = g.toCn
  vv : g1.V = g.V
  ext : Ext g.V g.H0 g1.H0
  up : ∀ b, g.F b → g1.F b
  dn : ∀ b, g1.F b → g.F b ∨ vac g.H0 b
theorem Desc.T {g1 : Gh} (d : Desc g g1) : g1.T = g.T := congrArg Cn.T d.cn
theorem Desc.refl : Desc g g := ⟨rfl, rfl, Ext.refl _ _, fun _ h => h, fun _ h => .inl h⟩
theorem Ok.desc (ok : Ok g A δ σ H) : Desc g (g.at A H) := ⟨rfl, rfl, ok.ext, fun _ h => .inl h, fun b hb => hb.elim .inl fun z => .inr (ok.new b z)⟩
/-- the ends, from the frame seen anew -/
theorem PostS.at (ok : Ok g A δ σ H) {A0 : List Addr} {H0 : Hp} {N : Ends} (l0 : Later g A0 H0 A H) : DEnds.Le (PostS g A0 H0 N) (PostS (g.at A H) [] H N) := by
  refine ⟨fun δ' h σ' A' H' ok' l' => ?_, fun d h v H' j e r => ?_, fun δ' h σ' A' H' ok' l' => ?_, fun δ' h σ' A' H' ok' l' => ?_⟩
  · obtain ⟨o2, l2⟩ := ok'.back ok
    exact h σ' _ H' o2 (l0.trans l2)
  · exact h v H' j (ok.ext.trans e) (r.anti fun b hb => .inl (.inl hb))
  · obtain ⟨o2, l2⟩ := ok'.back ok
    exact h σ' _ H' o2 (l0.trans l2)
  · obtain ⟨o2, l2⟩ := ok'.back ok
    exact h σ' _ H' o2 (l0.trans l2)
end
section
variable {X : Cx} {g : Gh} {EX : List Slot → Exc → Prop} {k : Nat}
/-- .. where slot i is let go -/
abbrev offE (i : Nat) (N : DEnds) : DEnds := { nx := fun δ2 => N.nx (δ2.set i .un), rt := N.rt, bk := fun δ2 => N.bk (δ2.set i .un), ct := fun δ2 => N.ct (δ2.set i .un) }
/-- body; what an error does -/
def dTry (i : Nat) (tB : (List Slot → Exc → Prop) → TDS) (tS : Exc → Addr → TDS) : TDS := fun N δ => plainS δ = true ∧
  tB (fun δ' x => x.cls ∈ XN ∧ plainS δ' = true ∧ ∀ a, tS x a (offE i N) (δ'.set i (.val (.ptr a)))) N δ
theorem PSs.ex {ι : Sort _} {sts : List Stmt} {P : ι → Prop} {t : ι → TS} (h : ∀ i, P i → PSs X sts (t i)) : PSs X sts (fun N σ H => ∃ i, P i ∧ t i N σ H) := ⟨fun pins s σ H N I ⟨i, p, q⟩ => (h i p).run pins s σ H N I q⟩
theorem ds_try (i : Nat) {n : Str} {E : Addr} {body suite : List Stmt} {b₀ : Stmt} {np pos pos' : Pos} {tB : (List Slot → Exc → Prop) → TDS} {tS : Exc → Addr → TDS} (z : Cs X g EX k) (xa : XAll X.K X.mg) (hi : X.N[i]? = some n) (hln : X.env.kindOf n = some .local) (hgP : Gl X "PowerError") (hmP : X.mg "PowerError" = some (.ref E))
    (hb : ∀ (pn : List (Addr × Obj)) (xe : Value → Shared → Prop) (g1 : Gh) (EX' : List Slot → Exc → Prop), Desc g g1 → Cs (X.tr pn xe) g1 EX' k → DSs (X.tr pn xe) g1 body (tB EX'))
    (hbm : ∀ (EX' EX'' : List Slot → Exc → Prop) D1 D2 δ, (∀ δ x, EX' δ x → EX'' δ x) → DEnds.Le D1 D2 → tB EX' D1 δ → tB EX'' D2 δ)
    (hs : ∀ (a : Addr) (oe : Obj) (pn : List (Addr × Obj)) (g2 : Gh) (x : Exc), g2.T = g.T → Ch (X.suite a ((a, oe) :: pn)) g2 a x k → DSs (X.suite a ((a, oe) :: pn)) g2 (b₀ :: suite) (tS x a))
    (hsm : ∀ x a D1 D2 δ, DEnds.Le D1 D2 → tS x a D1 δ → tS x a D2 δ) :
    DS X g (.Try body [.ExceptHandler (some (.Name "PowerError" np)) (some n) (b₀ :: suite) pos'] [] [] pos) (dTry i tB tS) := by
  refine ⟨PS.weak (L2N.ps_try_as (X := X) (c := .ref E) (i := i) (Wout := fun _ _ _ _ => False)
    (tb := fun W N σ H => ∃ (q : Gh × (List Slot → Exc → Prop)), (q.1.K = X.K ∧ q.1.mg = X.mg ∧ Desc g q.1 ∧ ∀ cls d σ H, WXof q.1 q.2 cls d σ H → W cls d σ H) ∧ LiftS q.1 (tB q.2) N σ H)
    (ts := fun a cls d N σ H => ∃ (q : Gh × Exc × Addr), (q.1.K = X.K ∧ q.1.mg = X.mg ∧ q.1.T = g.T ∧ q.2.1.cls ∈ XN ∧ cls = .ref q.2.2 ∧ RepX q.1.toCn q.1.F q.1.H0 cls d q.2.1) ∧ LiftS q.1 (tS q.2.1 a) N σ H)
    z.stk z.frm z.nd hi hln ⟨hgP, by decide, .inl hmP⟩ (z.tk.imp fun _ _ _ _ h => h.elim) (fun W pn xe tk ps => PSs.ex fun q hq => ?_) (fun a oe cls d pn zn hf => PSs.ex fun q hq => ?_)) fun N σ H ⟨A, δ, ok, hp, h⟩ => ?_, fun D1 D2 δ l ⟨hp, h⟩ => ⟨hp, hbm _ _ _ _ _ (fun δ' x ⟨h1, h2, h3⟩ => ⟨h1, h2, fun a => hsm x a (offE i D1) (offE i D2) _ ⟨fun δ h => l.nx _ h, l.rt, fun δ h => l.bk _ h, fun δ h => l.ct _ h⟩ (h3 a)⟩) l h⟩⟩
  · exact (hb pn xe q.1 q.2 hq.2.2.1 ⟨⟨⟨hq.1, hq.2.1, z.b.hu, z.b.gd, z.b.nd⟩, z.room, z.calm, tk.imp hq.2.2.2⟩, ps, z.stk, z.frm, z.ex⟩).pss
  · obtain ⟨q1, q2, q3, q4, q5, q6⟩ := hq
    obtain ⟨vs, hv⟩ := hf
    subst q5
    exact (hs a oe pn q.1 q.2.1 q3 ⟨⟨q1, q2, z.b.hu, z.b.gd, z.b.nd⟩, xa, q4, ⟨oe, _, d, List.mem_cons_self, ⟨zn.1, zn.2.1⟩, ⟨rfl, vs, hv, zn.2.2 vs hv⟩, q6⟩, ⟨z.room.r.dp, z.room.r.un⟩⟩).pss
  · refine ⟨(g.at A H, _), ⟨z.hK, z.hmg, ok.desc, fun cls d σ' H' hx => ?_⟩, [], δ, ok.root hp, hbm _ _ _ _ _ (fun _ _ h => h) (PostS.at ok Later.refl) h⟩
    obtain ⟨A', δ', x, ok', rx, h1, h2, h3⟩ := hx
    obtain ⟨C, e1, e2, rx2⟩ := id rx
    have hmC : X.mg x.cls = some (.ref C) := by rw [← z.hmg]; exact e2
    refine ⟨true, by rw [e1]; exact (xa _ h1 C hmC).exm E hmP, fun _ a ha => ?_, fun h => by cases h⟩
    obtain ⟨okb, lb⟩ := ok'.back ok
    refine ⟨((g.at A H).at A' H', x, C), ⟨z.hK, z.hmg, rfl, h1, e1, rx⟩, [], δ'.set i (.val (.ptr a)), (ok'.root h2).setVal (.ptr a) i, hsm _ _ _ _ _ ⟨fun δ2 h σ2 A2 H2 ok2 l2 => ?_, fun d h v H2 j e r => ?_, fun δ2 h σ2 A2 H2 ok2 l2 => ?_, fun δ2 h σ2 A2 H2 ok2 l2 => ?_⟩ (h3 a)⟩
    · obtain ⟨o2, l2'⟩ := ok2.back ok'
      obtain ⟨o3, l3⟩ := o2.back ok
      exact h _ _ H2 (o3.setUn none i) l3
    · have e3 : Ext g.V H' H2 := e
      have e4 : Ext g.V H H' := ok'.ext
      exact h v H2 j (ok.ext.trans (e4.trans e3)) (r.anti fun b hb => .inl (.inl (.inl hb)))
    · obtain ⟨o2, l2'⟩ := ok2.back ok'
      obtain ⟨o3, l3⟩ := o2.back ok
      exact h _ _ H2 (o3.setUn none i) l3
    · obtain ⟨o2, l2'⟩ := ok2.back ok'
      obtain ⟨o3, l3⟩ := o2.back ok
      exact h _ _ H2 (o3.setUn none i) l3
end
end DL

set_option Elab.async false
set_option linter.all false
set_option maxRecDepth 100000
set_option maxHeartbeats 8000000
/-! DL15: a lambda without parameters, handed to a def that calls it. -/
namespace DL
open PySem PySem.Spec PyProof.Rows L2 LamX
/-- the lambda's frame: its errors are those of DL's calls -/
abbrev lamX (X : Cx) (A : Around) (outer : List Env) (s : Shared) (H : Hp) (E : XK) (scope : Scope) (f c' : Addr) : Cx :=
  (lamCx X A outer s H E scope f c').tr [] (fun e s' => wpAny (model X.prog X.w) (A.deeper (lamEnv X scope s.heap.objs.size f c')) (leaving (lamEnv X scope s.heap.objs.size f c') e) (fun _ s'' => L2N.CX X.prog X.w outer H s E e s'') (fun e' s'' => L2N.CX X.prog X.w outer H s E e' s'') s')
def hideS (s : Slot) : Slot := match s with
  | .own _ => .un
  | .ownD _ => .un
  | s => s
section
variable {X : Cx} {g : Gh} {A : List Addr} {δ : List Slot} {σ : L2.St} {H : Hp}
theorem Slots.hide {c : Cn} {Fb : Addr → Prop} : ∀ {As : List Addr} {δ : List Slot} {σ : L2.St}, Slots c Fb H As δ σ → Slots c Fb H [] (δ.map hideS) σ := by
  intro As δ σ s
  induction s with
  | nil => exact .nil
  | un _ ih => exact .un ih
  | val r _ ih => exact .val r ih
  | own _ _ _ ih => exact .un ih
  | ownD _ _ _ ih => exact .un ih
/-- what the call of the thing at f does -/
def dAct (f : Addr) (SL : (D → Prop) → (Exc → Prop) → Prop) (EX : List Slot → Exc → Prop) : TD := fun δ K => δ[0]? = some (.val (.ptr f)) ∧ SL K (EX δ)
/-- a def of one parameter that calls what it gets, and tells of its error -/
structure FaultD (P : Program) (w : World) (K : PySem.W.Frag) (mg : Str → Option Value) (base : Heap) (T : List (Addr × Str)) (kf : Nat) (x a : Str) (RK : (D → Prop) → Exc → Prop) : Prop where
  ex : ∃ (st : Stmt) (f : Addr) (fd : FuncData) (N : List Str), mg x = some (.ref f) ∧ Fun K x x st f fd ∧ FnScope N [a] (defScope st) ∧ Binds K fd [a] [] ∧ Vis (defScope st) a ∧ N[0]? = some a ∧
    ∀ (cdv : Value) (A : Around) (outer : List Env) (s : Shared) (H : Hp) (E : XK) (gF : Gh) (f' : Addr) (SL : (D → Prop) → (Exc → Prop) → Prop) (EEF : Exc → Prop), (∀ K K' E E', (∀ d, K d → K' d) → (∀ x, E x → E' x) → SL K E → SL K' E') → gF.T = T → Cs (cxD P w K mg base N x st f cdv A outer s H E) gF (fun _ => EEF) (kf + 1) →
      (∀ (pn : List (Addr × Obj)) (xe : Value → Shared → Prop) (g1 : Gh) (EX' : List Slot → Exc → Prop) (p1 p2 : Pos), Desc gF g1 → Cz ((cxD P w K mg base N x st f cdv A outer s H E).tr pn xe) g1 EX' (kf + 1) → DE ((cxD P w K mg base N x st f cdv A outer s H E).tr pn xe) g1 (.Call (.Name a p1) [] [] p2) (dAct f' SL EX')) →
      ∃ t, DSs (cxD P w K mg base N x st f cdv A outer s H E) gF (defBody st) t ∧ ∀ Kk : D → Prop, SL (fun _ => Kk .non) (RK Kk) → t { nx := fun _ => Kk .non, rt := Kk } (startD N [.ptr f'])
/-- the call, in the def that got the lambda; X made it, at s -/
theorem lam_act {Ng : List Str} {x : Str} {sg : Stmt} {gA f c' : Addr} {cdg pm ctv : Value} {params : Arguments} {body : Expr} {scope : Scope} {kl : Nat} {a : Str} {pins : List (Addr × Obj)} {s : Shared} {tb : (List Slot → Exc → Prop) → TD} {E0 : XK}
    (I : Inv X pins σ H s) (ok : Ok g A δ σ H) (hK : g.K = X.K) (hmg : g.mg = X.mg) (nd : X.N.Nodup) (L : LamS X.env.scope scope) (hf : s.heap.get? f = some (PySem.W.kla_obj "<lambda>" (X.env.qual ++ "<lambda>") params body scope (cloFrom X.env.cells scope.names []) pm c' ctv)) (hfn : H f = none) (hfr : f ∉ frs X.stack)
    (hco : H c' = some (CodeO c' (X.env.qual ++ "<lambda>")))
    (hbind : bindArgs (PySem.W.kla_fn "<lambda>" (X.env.qual ++ "<lambda>") params body scope (cloFrom X.env.cells scope.names []) pm (.ref c') ctv) ⟨[], []⟩ = pure [])
    (hbody : ∀ (A : Around) (outer : List Env) (s : Shared) (H : Hp) (E : XK) (gL : Gh) (EXL : List Slot → Exc → Prop), gL.T = g.T → Cz (lamX X A outer s H E scope f c') gL EXL kl → DE (lamX X A outer s H E scope f c') gL body (tb EXL))
    (hv : Vis (defScope sg) a) (hN : Ng[0]? = some a) (gF : Gh) (egF : gF.toCn = g.toCn) (eV : gF.V = g.toCn.W) (eF : gF.F = g.bar A) (eH : gF.H0 = H)
    (pn : List (Addr × Obj)) (xe : Value → Shared → Prop) (g1 : Gh) (EX' : List Slot → Exc → Prop) (p1 p2 : Pos) (ds : Desc gF g1) (z : Cz ((cxD X.prog X.w X.K X.mg X.base Ng x sg gA cdg X.A X.stack s H E0).tr pn xe) g1 EX' (kl + 1))
    (hm : ∀ δ (K K' : D → Prop) (E E' : Exc → Prop), (∀ d, K d → K' d) → (∀ x, E x → E' x) → tb (fun _ => E) δ K → tb (fun _ => E') δ K')
    (hd : (a == ("__debug__" : Str)) = false := by decide) (hcd : (a == ("__classdict__" : Str)) = false := by decide) :
    DE ((cxD X.prog X.w X.K X.mg X.base Ng x sg gA cdg X.A X.stack s H E0).tr pn xe) g1 (.Call (.Name a p1) [] [] p2) (dAct f (fun K E => tb (fun _ => E) (δ.map hideS) K) EX') := by
  refine ⟨⟨fun pinsZ sZ σZ HZ Q IZ ⟨A1, δ1, ok1, h0, ht⟩ => ?_⟩, fun δ K K' hk ⟨h0, h⟩ => ⟨h0, hm _ _ _ _ _ hk (fun _ h => h) h⟩⟩
  obtain ⟨v, hs, rv⟩ := ok1.get h0
  cases rv
  have cn1 : g1.toCn = g.toCn := ds.cn.trans egF
  have e0 : Ext g.toCn.W H HZ := by
    have := ds.ext
    rw [eV, eH] at this
    have q := ok1.ext
    rw [ds.vv, eV] at q
    exact this.trans q
  have e1 : Ext g.V H HZ := e0.mono ok.wV
  have j1 : JD g.toCn HZ := by rw [← cn1]; exact ok1.jd
  have okZ := ok.step e1 j1
  have hcZ : HZ c' = some (CodeO c' (X.env.qual ++ "<lambda>")) := by
    refine e0.keep c' _ hco (fun ⟨l, hw⟩ => ?_) codeO_ne
    obtain ⟨_, _, _, _, _, _, q⟩ := ok.jd.pen c' l hw
    rw [q] at hco
    unfold CodeO at hco
    cases hco
  refine wpAny_Call_Name_kw (thn ((pe_var (pos := p1) (i := 0) hN hv hd hcd).run pinsZ sZ σZ HZ (fun v H1 => v = .ref f ∧ H1 = HZ) IZ ⟨.ref f, hs, rfl, rfl⟩) fun u s1 ⟨v, H1, I1, r1, q1⟩ => ?_)
  obtain ⟨ev, eHZ⟩ := q1
  subst ev
  rw [eHZ] at I1
  obtain rfl : u = Value.ref f := r1
  have of1 : s1.heap.get? f = some (PySem.W.kla_obj "<lambda>" (X.env.qual ++ "<lambda>") params body scope (cloFrom X.env.cells scope.names []) pm c' ctv) := I1.base.keep f _ hf hfn hfr (fun z => nomatch (show f ∈ ([] : List Addr) from z))
  refine PySem.W.callWith_F0 ⟨_, _, _, _, of1⟩ ?_
  have un : Un (frs X.stack) [] H HZ s.heap s1.heap := I1.base
  obtain ⟨⟨oc, vs, t, hoc, hdc, hvc⟩, _, _⟩ := I1.hok c' _ hcZ
  let gL : Gh := { g1 with F := fun b => g.bar A b ∨ g1.bar A1 b, H0 := HZ }
  have okL : Ok gL [] (δ.map hideS) σ HZ := by
    refine ⟨ok1.cells, ok1.jd, ok1.wV, Ext.refl _ _, fun b hb => .inr (.inl (ok1.fW b hb)), fun b hb => ?_, (fun b hb => by cases hb), (fun b hb => by cases hb), [], List.nodup_nil, (fun b hb => by cases hb), ?_⟩
    · rcases hb with hb | hb
      · exact okZ.W0 b hb
      · exact ok1.W0 b hb
    · obtain ⟨As, nd, sub, sl⟩ := ok.sl
      have s1 : Slots g.toCn (fun b => (g.bar A b ∨ g1.bar A1 b) ∨ b ∈ ([] : List Addr)) H [] (δ.map hideS) σ := Slots.anti (fun b hb => by
        rcases hb with (hb | hb) | hb
        · exact .inl hb
        · rcases hb with hb | hb
          · rcases ds.dn b hb with q | q
            · rw [eF] at q; exact .inl q
            · rw [eH] at q; exact .inr q
          · have q := ds.ext.dom b (ok1.new b hb)
            rw [eH] at q
            exact .inr q
        · cases hb) sl.hide
      have s2 := Slots.ext (W := g.V) (fun b h => .inl (.inl (.inl (ok.fW b h)))) e1 (fun b hb => by cases hb) s1
      show Slots g1.toCn _ HZ [] _ σ
      rw [cn1]
      exact s2
  let E : XK := fun cls d H' => WXof g1 EX' cls d σZ H'
  have rc : codeAny (model X.prog X.w) (X.A.deeper (envOfC x (defScope sg) s.heap.objs.size gA cdg)) (.call (.ref f) ⟨[], []⟩) (CR (L2N.CX X.prog X.w) (envOfC x (defScope sg) s.heap.objs.size gA cdg :: X.stack) X.prog X.w HZ s1 Q E) s1 := by
    refine PySem.W.kla_callFunE z.room.r.depth of1 rfl L.co L.gen rfl ⟨c', oc, vs, t, rfl, hoc, hdc, hvc⟩ ?_
    rw [hbind]
    refine wpAny_pure (wpAny_newFunctionEnv (fun y hy => (L.own y hy).2) (fun y hy => absurd hy (by simp)) (fun h₁ hns hsb => ⟨I1.nolimit.fresh _ hsb, ?_⟩) L.kind)
    show codeAny _ _ (.expr body (lamEnv X scope s1.heap.objs.size f c')) _ _
    have kp : ∀ b o, s1.heap.get? b = some o → h₁.get? b = some o := fun b o e => hsb.extBut b o (Nat.ne_of_lt (Heap.lt_size e)) (Heap.get?_push_of_some _ e)
    have J0 : Inv (lamCx X (X.A.deeper (envOfC x (defScope sg) s.heap.objs.size gA cdg)) (envOfC x (defScope sg) s.heap.objs.size gA cdg :: X.stack) s1 HZ E scope f c') [] σ HZ { s1 with heap := h₁, toks := s1.toks + ([] : List (Str × Value)).length } :=
      lam_start2 I L I1.env0 z.room.r.hd un hns kp
    have J : Inv (lamX X (X.A.deeper (envOfC x (defScope sg) s.heap.objs.size gA cdg)) (envOfC x (defScope sg) s.heap.objs.size gA cdg :: X.stack) s1 HZ E scope f c') [] σ HZ { s1 with heap := h₁, toks := s1.toks + ([] : List (Str × Value)).length } := J0.toTry _
    have zL : Cz (lamX X (X.A.deeper (envOfC x (defScope sg) s.heap.objs.size gA cdg)) (envOfC x (defScope sg) s.heap.objs.size gA cdg :: X.stack) s1 HZ E scope f c') gL (fun _ => EX' δ1) kl := by
      have hr : GRoom kl ((X.A.deeper (envOfC x (defScope sg) s.heap.objs.size gA cdg)).deeper (lamEnv X scope s1.heap.objs.size f c')) := GRoom.deeper z.room _
      refine ⟨⟨z.hK, z.hmg, hr.r.units, hr.gd, nd⟩, hr, rfl, L2N.Takes.imp (L2N.takes_of rfl rfl rfl rfl) (fun cls d σ' H' hx => ?_)⟩
      obtain ⟨A3, δ3, y, ok3, ry, hy⟩ := hx
      have e3 : Ext g1.V HZ H' := ok3.ext
      exact ⟨A1, δ1, y, ok1.step e3 ok3.jd, ry.anti fun b hb => .inl (.inr hb), hy⟩
    refine PySem.W.kla_codeExpr (wpAny_mono ((hbody _ _ s1 HZ E gL (fun _ => EX' δ1) (congrArg Cn.T cn1) zL).pe.run [] _ _ HZ Q J ⟨[], δ.map hideS, okL, hm _ _ _ _ _ (fun d hd v H' e j r => ?_) (fun _ h => h) ht⟩) (fun v s' hq => ?_) fun e s' hq => hq)
    · have e3 : Ext g1.V HZ H' := e
      exact hd v H' e3 j (r.anti fun b hb => .inl (.inl (.inr hb)))
    · obtain ⟨w', H', J', rv, q⟩ := hq
      exact ⟨w', H', J'.os, J'.bare, J'.base, J'.hok, rv, q⟩
  refine wpAny_call (codeAny_mono rc fun r s' hq => ?_)
  cases r with
  | error e => exact L2N.passAt z.tk σZ pinsZ HZ s1 e s' I1 hq
  | ok fl =>
    cases fl with
    | ret u => exact I1.after hq
    | next => exact False.elim hq
    | brk => exact False.elim hq
    | cont => exact False.elim hq
end
end DL

set_option Elab.async false
set_option linter.all false
set_option maxRecDepth 100000
set_option maxHeartbeats 8000000
/-! DL16: f(lambda: e). -/
namespace DL
open PySem PySem.Spec PyProof.Rows L2 LamX
/-- f(lambda: e): e's reading in the maker's frame, as it stands -/
def dLam (RK : (D → Prop) → Exc → Prop) (tb : (List Slot → Exc → Prop) → TD) : TD := fun δ K => tb (fun _ => RK K) (δ.map hideS) (fun _ => K .non)
section
variable {X : Cx} {g : Gh} {EX : List Slot → Exc → Prop} {j kl : Nat}
/-- all but the tables: nothing goes -/
theorem extN_ext {F : Addr → Prop} {H H' : Hp} (e : ExtN H H') : Ext F H H' := ⟨fun b o h _ t => e b o h t, fun b v o q => by
  by_cases t : ∃ ps, o = .tbl ps
  · exact t
  · exact v o (e b o q fun ps z => t ⟨ps, z⟩)⟩
theorem de_lamcall {RK : (D → Prop) → Exc → Prop} {tb : (List Slot → Exc → Prop) → TD} {x a : Str} {c P : Addr} {params : Arguments} {body : Expr} {scope : Scope} {p lpos pos : Pos} (z : Cz X g EX j) (fa : FaultD X.prog X.w X.K X.mg X.base g.T kl x a RK) (hj : kl + 2 ≤ j) (hg : Gl X x)
    (TB : TabB X.base X.mg c P) (hcode : X.env.code = .ref c) (hmT : (P, X.env.qual ++ "<lambda>") ∈ g.T) (hu : ∀ p ∈ g.T, p.1 = P → p.2 = X.env.qual ++ "<lambda>") (L : LamS X.env.scope scope) (hdef : defaultsOf params X.env = ([], []))
    (hbind : ∀ (q : Str) (cl : List (Str × Addr)) (pm cv ctv : Value), bindArgs (PySem.W.kla_fn "<lambda>" q params body scope cl pm cv ctv) ⟨[], []⟩ = pure [])
    (hbody : ∀ (A : Around) (outer : List Env) (s : Shared) (H : Hp) (E : XK) (f c' : Addr) (gL : Gh) (EXL : List Slot → Exc → Prop), gL.T = g.T → Cz (lamX X A outer s H E scope f c') gL EXL kl → DE (lamX X A outer s H E scope f c') gL body (tb EXL))
    (hm : ∀ δ (K K' : D → Prop) (E E' : Exc → Prop), (∀ d, K d → K' d) → (∀ x, E x → E' x) → tb (fun _ => E) δ K → tb (fun _ => E') δ K') (hRK : ∀ (K K' : D → Prop), (∀ d, K d → K' d) → ∀ x, RK K x → RK K' x)
    (hdb : (x == ("__debug__" : Str)) = false := by decide) (hd : (a == ("__debug__" : Str)) = false := by decide) (hcdd : (a == ("__classdict__" : Str)) = false := by decide) :
    DE X g (.Call (.Name x p) [.Lambda params body scope lpos] [] pos) (dLam RK tb) := by
  refine ⟨⟨fun pins s σ H Q I ⟨A, δ, ok, h⟩ => ?_⟩, fun δ K K' hk h => hm _ _ _ _ _ (fun _ h => hk _ h) (hRK _ _ hk) h⟩
  obtain ⟨st, gA, fd, Ng, hmx, Fn, Sc, bd, hv, hN, hfa⟩ := fa.ex
  refine wpAny_Call_Name_kw (ld_glob I hg hmx ?_ hdb)
  refine PySem.W.callWith_K (h₀ := X.base) I.ok.mod.kin Fn.kp ?_ (by rfl) (by rfl)
  show wpAny _ _ (spliced ((false, eval (.Lambda params body scope lpos) X.env) :: backTo pos (starEach [] X.env))) _ _ s
  refine Calls.spliced_cons (lam_make2 I TB hcode hmT hu ok.jd.tabs hdef (L.has I.ok) fun f c' pm' ctv H1 s' I1 eN T1 hf hfn hfr hco => ?_)
  refine Calls.spliced_nil ⟨I1.kIn, ?_⟩
  have e1 : Ext g.V H H1 := extN_ext eN
  have j1 : JD g.toCn H1 := by
    refine ⟨fun b l hb => ?_, T1⟩
    obtain ⟨i1, i2, i3, i4, a1, a2, q⟩ := ok.jd.pen b l hb
    exact ⟨i1, i2, i3, i4, a1, a2, eN _ _ q fun ps z => nomatch z⟩
  have ok1 := ok.step e1 j1
  let gF : Gh := { K := X.K, mg := X.mg, pen := g.pen, T := g.T, F := g.bar A, H0 := H1, V := (⟨X.K, X.mg, g.pen, g.T⟩ : Cn).W }
  have egF : gF.toCn = g.toCn := by
    show (⟨X.K, X.mg, g.pen, g.T⟩ : Cn) = g.toCn
    rw [← z.hK, ← z.hmg]
  have eVF : gF.V = g.toCn.W := by rw [← egF]
  have rc : codeAny (model X.prog X.w) X.A (.call (.ref gA) ⟨[.ref f], []⟩) (CR (L2N.CX X.prog X.w) X.stack X.prog X.w H1 s' Q (fun _ _ _ => False)) s' := by
    obtain ⟨oc, od, kV, doc, pm, an, cdv, ct, osl, rfl, lk, hcd⟩ := Fn.ex
    have e0 := I1.env0
    have inK : X.K.In s'.heap := e0.mod.kin.keeps fun b o e => (e0.bs b o e).1
    have nolim : s'.heap.NoLimit := e0.mod.nolimit.keeps fun b o e => (e0.bs b o e).1
    have b : BindsTo s' (PySem.W.fnOf x x (defArgs st) (defBody st) (defScope st) .none kV doc pm an cdv ct) ⟨[.ref f], []⟩ ([a].zip [.ref f]) := bd s' [.ref f] I1.kIn rfl
    refine codeAny_call_function z.room.r.depth (inK _ _ lk) rfl Sc.co Sc.gen rfl (PySem.W.codeRec_of inK hcd) (b _ _ _ _ ?_)
    refine wpAny_newFunctionEnv_cells Sc.kind (fun y hy => ?_) fun env he s1 ic => ?_
    · obtain ⟨n, v⟩ := y
      rcases Sc.par n (List.of_mem_zip hy).1 with q | q
      · exact .inl q
      · exact .inr ⟨q, PySem.W.cellsFrom_some _ _ _ (.inl q)⟩
    subst he
    refine ⟨nolim.keeps ic.toInCall.keep, codeAny_func ?_⟩
    have hrj : GRoom (kl + 2) X.A := z.room.mono hj
    have hr1 : GRoom (kl + 1) (X.A.deeper (envOfC x (defScope st) s'.heap.objs.size gA cdv)) := hrj.deeper _
    have zF : Cs (cxD X.prog X.w X.K X.mg X.base Ng x st gA cdv X.A X.stack s' H1 (fun _ _ _ => False)) gF (fun _ _ => False) (kl + 1) :=
      ⟨⟨⟨rfl, rfl, hr1.r.units, hr1.gd, Sc.nd⟩, hr1, rfl, L2N.Takes.imp (L2N.takes_of rfl rfl rfl rfl) (fun cls d σ H' ⟨A', δ', x', ok', rx, hx⟩ => hx)⟩, passes_of rfl, rfl, rfl, rfl⟩
    obtain ⟨t, ht, hq⟩ := hfa cdv X.A X.stack s' H1 (fun _ _ _ => False) gF f (fun K E => tb (fun _ => E) (δ.map hideS) K) (fun _ => False) (fun K K' E E' h1 h2 q => hm _ _ _ _ _ h1 h2 q) rfl zF
      (fun pn xe g1 EX' p1 p2 ds z1 => lam_act (sg := st) I1 ok1 z.hK z.hmg z.nd L hf hfn hfr hco (hbind _ _ _ _ _) (fun A outer s H E gL EXL hT zL => hbody A outer s H E f c' gL EXL hT zL) hv hN gF egF eVF rfl rfl pn xe g1 EX' p1 p2 ds z1 hm hd hcdd)
    have J0 : Inv (cxD X.prog X.w X.K X.mg X.base Ng x st gA cdv X.A X.stack s' H1 (fun _ _ _ => False)) [] (L2.start Ng [.ref f]) H1 s1 := inv_start Sc hrj.r.hd e0 rfl (.cons rfl .nil) ic
    have okF : Ok gF [] (startD Ng [.ptr f]) (L2.start Ng [.ref f]) H1 := by
      refine ⟨J.cellsAt (c := ⟨X.K, X.mg, g.pen, g.T⟩) (F := g.bar A) (by rw [show (⟨X.K, X.mg, g.pen, g.T⟩ : Cn) = g.toCn from egF]; exact ok1.J), by rw [egF]; exact j1, fun _ h => h, Ext.refl _ _, fun b hb => .inl (ok.fW b (ok.wV b (by rw [eVF] at hb; exact hb))), fun b hb => ok1.W0 b hb, (fun b hb => by cases hb), (fun b hb => by cases hb), [], List.nodup_nil, (fun b hb => by cases hb), ?_⟩
      unfold startD L2.start
      exact slots_start _ (.cons (.ptr _) .nil)
    have w := ht.mono { nx := fun _ => Post g A H1 Q .non, rt := Post g A H1 Q } (PostS gF [] H1 { nx := fun _ H' => Q .non H', rt := Q }) (startD Ng [.ptr f]) ⟨fun δ h σ' A' H' ok' l' => ?_, fun d h v H' j' e' r' => ?_, fun δ h => (show False from h).elim, fun δ h => (show False from h).elim⟩
      (hq (Post g A H1 Q) (hm _ _ _ _ _ (fun _ h => Post.step e1 h) (hRK _ _ fun d h => Post.step e1 h) h))
    · refine wpAny_mono (ht.pss.run [] s1 _ H1 { nx := fun _ H' => Q .non H', rt := Q } J0 ⟨[], _, okF, w⟩) (fun fl s2 hs => ?_) fun e s2 hs => hs
      cases fl with
      | ret u =>
        obtain ⟨v, σ', H', J, rv, q⟩ := hs
        exact ⟨v, H', J.os, J.bare, J.base, J.hok, rv, q⟩
      | next =>
        obtain ⟨σ', H', J, q⟩ := hs
        exact ⟨.non, H', J.os, J.bare, J.base, J.hok, rfl, q⟩
      | brk =>
        obtain ⟨_, _, _, q⟩ := hs
        exact False.elim q
      | cont =>
        obtain ⟨_, _, _, q⟩ := hs
        exact False.elim q
    · have e2 := ok'.ext
      rw [eVF] at e2
      have e2 := e2.mono ok.wV
      exact h .non H' e2 (by rw [← egF]; exact ok'.jd) .non
    · have e2 := e'
      rw [eVF] at e2
      have e2 := e2.mono ok.wV
      have r2 := r'
      rw [egF] at r2
      exact h v H' e2 (by rw [← egF]; exact j'.jd) r2
  refine wpAny_call (codeAny_mono rc fun r s2 hq => ?_)
  cases r with
  | error e =>
    obtain ⟨_, _, _, _, _, _, _, _, _, _, _, _, hE⟩ := hq
    exact hE.elim
  | ok fl =>
    cases fl with
    | ret u => exact I1.after hq
    | next => exact False.elim hq
    | brk => exact False.elim hq
    | cont => exact False.elim hq
end
end DL

set_option Elab.async false
set_option linter.all false
set_option maxRecDepth 100000
set_option maxHeartbeats 8000000
/-! DL17: -x, chains, a, b = x, y; list comprehensions. -/
namespace DL
open PySem PySem.Spec PyProof.Rows L2
section
variable {X : Cx} {g : Gh} {EX : List Slot → Exc → Prop} {j : Nat} {a b c : Expr} {ta tb tc : TD} {pos : Pos}
def kNeg : D → (D → Prop) → Prop
  | .int i, K => K (.int (-i))
  | _, _ => False
theorem de_neg (ha : DE X g a ta) : DE X g (.UnaryOp .USub a pos) (fun δ K => ta δ fun d => kNeg d K) := by
  refine ⟨PE.weak (pe_un un_neg ha.pe) fun σ H Q ⟨A, δ, ok, h⟩ => ?_, fun δ K K' hk h => ha.mono _ _ _ (fun d hd => ?_) h⟩
  · refine ⟨A, δ, ok, ha.mono _ _ _ (fun d hd v H1 e1 j1 r1 => ?_) h⟩
    cases r1 with
    | int i => exact ⟨i, rfl, (show Post g A H Q (.int (-i)) from hd) _ H1 e1 j1 (.int _)⟩
    | _ => exact (show False from hd).elim
  · cases d <;> first | exact hk _ hd | exact (show False from hd).elim
def dNeg (ta : TD) : TD := fun δ K => ta δ fun d => kNeg d K
/-- a op1 b op2 c -/
def dChain (k k' : D → D → (D → Prop) → Prop) (ta tb tc : TD) : TD := fun δ K => ta δ fun x => tb δ fun y => k x y (Kb fun r => if r = true then tc δ fun w => k' y w K else K (.bl false))
theorem chain_mono {k k' : D → D → (D → Prop) → Prop} (km : Mono2 k) (km' : Mono2 k') (ha : DE X g a ta) (hb : DE X g b tb) (hc : DE X g c tc) : ∀ δ (K K' : D → Prop), (∀ d, K d → K' d) → dChain k k' ta tb tc δ K → dChain k k' ta tb tc δ K' := fun δ K K' hk h =>
  ha.mono _ _ _ (fun x hx => hb.mono _ _ _ (fun y hy => km _ _ _ _ (Kb_mono fun r hr => by
    cases r with
    | true => exact hc.mono _ _ _ (fun w hw => km' _ _ _ _ hk hw) hr
    | false => exact hk _ hr) hy) hx) h
theorem chain_lift {r r' : R2} {k k' : D → D → (D → Prop) → Prop} (hk : OpD g r k) (hk' : OpD g r' k') (km : Mono2 k) (km' : Mono2 k') (ha : DE X g a ta) (hb : DE X g b tb) (hc : DE X g c tc) {σ : L2.St} {H : Hp} {Q : VK} (h : LiftE g (dChain k k' ta tb tc) σ H Q) : tChain r r' (LiftE g ta) (LiftE g tb) (LiftE g tc) σ H Q := by
  obtain ⟨A, δ, ok, h⟩ := h
  refine ⟨A, δ, ok, ha.mono _ _ _ (fun x hx v H1 e1 j1 r1 => ?_) h⟩
  have ok1 := ok.step e1 j1
  refine ⟨A, δ, ok1, hb.mono _ _ _ (fun y hy w H2 e2 j2 r2 => ?_) hx⟩
  have ok2 := ok1.step e2 j2
  refine hk A δ σ H2 v w x y _ ok2 (r1.ext (e2.mono fun b hb => .inl (ok.fW b hb))) r2 (km _ _ _ _ (fun d hd => ?_) hy)
  intro z H3 e3 j3 r3
  cases r3 with
  | bl t =>
    refine ⟨t, rfl, ?_⟩
    have ok3 := ok2.step e3 j3
    have hd := (show (if t = true then tc δ fun w => k' y w (Post g A H Q) else Post g A H Q (.bl false)) from hd)
    cases t with
    | true =>
      refine ⟨A, δ, ok3, hc.mono _ _ _ (fun w' hw u H4 e4 j4 r4 => ?_) hd⟩
      exact hk' A δ σ H4 w u y w' Q (ok3.step e4 j4) (r2.ext ((e3.trans e4).mono fun b hb => .inl (ok.fW b hb))) r4 (km' _ _ _ _ (fun d hd => Post.step (((e1.trans e2).trans e3).trans e4) hd) hw)
    | false => exact hd _ H3 ((e1.trans e2).trans e3) j3 (.bl false)
  | _ => exact (show False from hd).elim
/-- a chain, as a value and as a test -/
structure DC2 (X : Cx) (g : Gh) (o o' : CmpOp) (a b c : Expr) (t : TD) : Prop where
  de : ∀ pos, DE X g (.Compare a [o, o'] [b, c] pos) t
  dt : ∀ pos, DT X g (.Compare a [o, o'] [b, c] pos) (dTest t)
theorem dc2_of {o o' : CmpOp} {r r' : R2} {k k' : D → D → (D → Prop) → Prop} (ho : OpR X (compareOp o) r) (ho' : OpR X (compareOp o') r') (hk : OpD g r k) (hk' : OpD g r' k') (km : Mono2 k) (km' : Mono2 k') (ha : DE X g a ta) (hb : DE X g b tb) (hc : DE X g c tc) (hm : lastMarks [o, o'] [b, c] = false) : DC2 X g o o' a b c (dChain k k' ta tb tc) := by
  refine ⟨fun pos => ⟨PE.weak (pe_chain ho ho' ha.pe hb.pe hc.pe hm) fun σ H Q h => chain_lift hk hk' km km' ha hb hc h, chain_mono km km' ha hb hc⟩, fun pos => ⟨PT.weak (pt_chain ho ho' ha.pe hb.pe hc.pe hm) fun σ H Q h => ?_, fun δ K K' hk' h => chain_mono km km' ha hb hc _ _ _ (Kb_mono hk') h⟩⟩
  obtain ⟨A, δ, ok, h⟩ := h
  exact chain_lift hk hk' km km' ha hb hc ⟨A, δ, ok, chain_mono km km' ha hb hc _ _ _ (fun d hd => test_lift (t := fun _ _ _ => True) (σ := []) hd) h⟩
theorem dc_leLe (ha : DE X g a ta) (hb : DE X g b tb) (hc : DE X g c tc) (hm : lastMarks [.LtE, .LtE] [b, c] = false := by with_unfolding_all rfl) : DC2 X g .LtE .LtE a b c (dChain kLe kLe ta tb tc) := dc2_of op_le op_le opB0_D opB0_D kI0_mono kI0_mono ha hb hc hm
theorem dc_leLt (ha : DE X g a ta) (hb : DE X g b tb) (hc : DE X g c tc) (hm : lastMarks [.LtE, .Lt] [b, c] = false := by with_unfolding_all rfl) : DC2 X g .LtE .Lt a b c (dChain kLe kLt ta tb tc) := dc2_of op_le op_lt opB0_D opB0_D kI0_mono kI0_mono ha hb hc hm
theorem dc_ltLt (ha : DE X g a ta) (hb : DE X g b tb) (hc : DE X g c tc) (hm : lastMarks [.Lt, .Lt] [b, c] = false := by with_unfolding_all rfl) : DC2 X g .Lt .Lt a b c (dChain kLt kLt ta tb tc) := dc2_of op_lt op_lt opB0_D opB0_D kI0_mono kI0_mono ha hb hc hm
/-! ### a, b = x, y -/
def dPar (i k : Nat) (u : TDA) : TDS := fun N δ => u δ fun ds => match ds with
  | [d, e] => N.nx ((δ.set i (.val d)).set k (.val e))
  | _ => False
def dPar3 (i k l : Nat) (u : TDA) : TDS := fun N δ => u δ fun ds => match ds with
  | [d, e, f] => N.nx (((δ.set i (.val d)).set k (.val e)).set l (.val f))
  | _ => False
theorem ds_par (i k : Nat) {x y : Str} {u : TDA} {px py pt pos : Pos} {kt k2 pt2} (z : Cz X g EX j) (hi : X.N[i]? = some x) (hk : X.N[k]? = some y) (hij : i ≠ k) (hx : X.env.scope.names.lookup x = some .local) (hy : X.env.scope.names.lookup y = some .local) (ha : DA X g [a, b] u)
    (hw : swappedStores [.Tuple [.Name x px, .Name y py] kt pt] (.Tuple [a, b] k2 pt2) X.env = pure (some [x, y])) (hs : swapsWithSole [.Tuple [.Name x px, .Name y py] kt pt] (.Tuple [a, b] k2 pt2) pos.line X.env = pure false := by rfl) :
    DS X g (.Assign [.Tuple [.Name x px, .Name y py] kt pt] (.Tuple [a, b] k2 pt2) pos) (dPar i k u) := by
  refine ⟨PS.weak (ps_par z.calm z.nd hi hk hij hx hy ha.pa hw hs) fun N σ H ⟨A, δ, ok, h⟩ => ⟨A, δ, ok, ha.mono _ _ _ (fun ds hd vs H1 e1 j1 r1 => ?_) h⟩, fun D1 D2 δ l h => ha.mono _ _ _ (fun ds hd => ?_) h⟩
  · split at hd
    · obtain ⟨v, w, e, r2, r3⟩ := two_rep r1
      exact ⟨v, w, e, hd _ A H1 (((ok.step e1 j1).setVal r2 i).setVal r3 k) (later_of ok e1)⟩
    · exact hd.elim
  · split at hd
    · exact l.nx _ hd
    · exact hd.elim
theorem ds_par3 (i k l : Nat) {x y w : Str} {u : TDA} {px py pz pt pos : Pos} {kt k2 pt2} (z : Cz X g EX j) (hi : X.N[i]? = some x) (hk : X.N[k]? = some y) (hl : X.N[l]? = some w) (hij : i ≠ k) (hil : i ≠ l) (hjl : k ≠ l) (hx : X.env.scope.names.lookup x = some .local) (hy : X.env.scope.names.lookup y = some .local) (hz : X.env.scope.names.lookup w = some .local)
    (ha : DA X g [a, b, c] u) (hw : swappedStores [.Tuple [.Name x px, .Name y py, .Name w pz] kt pt] (.Tuple [a, b, c] k2 pt2) X.env = pure (some [x, y, w])) (hs : swapsWithSole [.Tuple [.Name x px, .Name y py, .Name w pz] kt pt] (.Tuple [a, b, c] k2 pt2) pos.line X.env = pure false := by rfl) :
    DS X g (.Assign [.Tuple [.Name x px, .Name y py, .Name w pz] kt pt] (.Tuple [a, b, c] k2 pt2) pos) (dPar3 i k l u) := by
  refine ⟨PS.weak (ps_par3 z.calm z.nd hi hk hl hij hil hjl hx hy hz ha.pa hw hs) fun N σ H ⟨A, δ, ok, h⟩ => ⟨A, δ, ok, ha.mono _ _ _ (fun ds hd vs H1 e1 j1 r1 => ?_) h⟩, fun D1 D2 δ l h => ha.mono _ _ _ (fun ds hd => ?_) h⟩
  · split at hd
    · cases r1 with
      | cons r2 rr =>
        obtain ⟨v, w, e, r3, r4⟩ := two_rep rr
        subst e
        exact ⟨_, v, w, rfl, hd _ A H1 ((((ok.step e1 j1).setVal r2 i).setVal r3 k).setVal r4 l) (later_of ok e1)⟩
    · exact hd.elim
  · split at hd
    · exact l.nx _ hd
    · exact hd.elim
/-- what gives a new list gives a list -/
def sD (K : D → Prop) : Slot → Prop
  | .un => False
  | .val d => K d
  | .own ds => K (.lst ds)
  | .ownD ds => K (.dct ds)
theorem sD_mono {K K' : D → Prop} (h : ∀ d, K d → K' d) : ∀ s, sD K s → sD K' s := fun s q => by
  cases s <;> first | exact h _ q | exact q
def dOfV (t : TDV) : TD := fun δ K => t δ (sD K)
theorem vac.nbar {A : List Addr} {δ : List Slot} {σ : L2.St} {H : Hp} (ok : Ok g A δ σ H) {p : Addr} (v : vac H p) : ¬ g.bar A p := fun z => by
  obtain ⟨o, e, t⟩ := ok.W0 p z
  exact v.no e t
theorem de_ofV {t : TDV} (h : DV X g a t) : DE X g a (dOfV t) := by
  refine ⟨PE.weak h.pe fun σ H Q ⟨A, δ, ok, q⟩ => ⟨A, δ, ok, h.mono _ _ _ (fun s hs => ?_) q⟩, fun δ K K' hk q => h.mono _ _ _ (sD_mono hk) q⟩
  cases s with
  | un => exact hs
  | val d => exact hs
  | own ds => exact fun p vs H' e j n q r => hs _ H' e j (.lst q (vac.nbar ok n) (r.anti fun b hb => .inl (hb.imp id fun z => List.mem_cons_of_mem _ z)))
  | ownD ds => exact fun p vs H' e j n q r => hs _ H' e j (.dct q (vac.nbar ok n) (r.anti fun b hb => .inl (hb.imp id fun z => List.mem_cons_of_mem _ z)))
end
end DL

set_option Elab.async false
set_option linter.all false
set_option maxRecDepth 100000
set_option maxHeartbeats 8000000
/-! DL18: list comprehensions. -/
namespace DL
open PySem PySem.Spec PyProof.Rows L2
def wipeD (δ : List Slot) : List Nat → List Slot
  | [] => δ
  | v :: vs => (wipeD δ vs).set v .un
section
variable {X : Cx} {g : Gh} {EX : List Slot → Exc → Prop} {j k : Nat} {A : List Addr} {δ : List Slot} {σ : L2.St} {H : Hp}
theorem Slots.set_un {c : Cn} {Fb : Addr → Prop} : ∀ {δ : List Slot} {σ : L2.St} (i : Nat), Slots c Fb H [] δ σ → Slots c Fb H [] (δ.set i .un) (σ.set i none) := by
  intro δ σ i s
  generalize hA : ([] : List Addr) = A at s
  induction s generalizing i with
  | nil => exact .nil
  | un s ih =>
    cases i with
    | zero => exact .un s
    | succ i => exact .un (ih i hA)
  | val r s ih =>
    cases i with
    | zero => exact .un s
    | succ i => exact .val r (ih i hA)
  | own _ _ _ _ => cases hA
  | ownD _ _ _ _ => cases hA
theorem Slots.wipe {c : Cn} {Fb : Addr → Prop} {δ : List Slot} {σ : L2.St} (s : Slots c Fb H [] δ σ) : ∀ vs, Slots c Fb H [] (wipeD δ vs) (L2.wipe σ vs)
  | [] => s
  | v :: vs => Slots.set_un v (Slots.wipe s vs)
/-- the frame seen from a turn of a comprehension that makes its list at L -/
def Gh.lc (g : Gh) (A : List Addr) (L : Addr) (H : Hp) : Gh := { g with F := fun b => g.bar A b ∨ b = L, H0 := H }
theorem Ok.lc (ok : Ok g A δ σ H) {L : Addr} (hL : H L = none) {H2 : Hp} (e : Ext g.V H H2) (j : JD g.toCn H2) {acc : List V} (h : H2 L = some (.lst acc)) (vs : List Nat) : Ok (g.lc A L H2) [] (wipeD (δ.map hideS) vs) (L2.wipe σ vs) H2 := by
  have ok2 := ok.step e j
  refine ⟨ok2.cells, j, ok.wV, Ext.refl _ _, fun b hb => .inl (.inl (ok.fW b hb)), fun b hb => ?_, (fun b hb => by cases hb), (fun b hb => by cases hb), [], List.nodup_nil, (fun b hb => by cases hb), ?_⟩
  · show ∃ o, H2 b = some o ∧ _
    rcases hb with hb | hb
    · exact ok2.W0 b hb
    · rw [hb]
      exact ⟨_, h, fun ps z => nomatch z⟩
  · obtain ⟨As, nd, sub, sl⟩ := ok.sl
    refine Slots.wipe ?_ vs
    refine Slots.anti (Fb := fun b => g.bar A b ∨ b = L) (fun b hb => hb.elim .inl fun z => by cases z) ?_
    have s1 : Slots g.toCn (fun b => g.bar A b ∨ b = L) H [] (δ.map hideS) σ := Slots.anti (fun b hb => hb.imp id fun z => by rw [z]; exact vac.of hL) sl.hide
    exact Slots.ext (W := g.V) (fun b h => .inl (.inl (ok.fW b h))) e (fun b hb => by cases hb) s1
/-- the list gets one more -/
theorem Ok.lcPut (ok : Ok g A δ σ H) {L : Addr} (hL : H L = none) {H2 : Hp} (e : Ext g.V H H2) (j : JD g.toCn H2) {acc acc' : List V} (h : H2 L = some (.lst acc)) : Ext g.V H (upd H2 L (.lst acc')) ∧ JD g.toCn (upd H2 L (.lst acc')) := by
  refine ⟨⟨fun b o q n t => ?_, fun b v => ?_⟩, jd_turn j h (fun q => ?_) (.inl ⟨_, rfl⟩)⟩
  · rw [upd_ne (ne_of_none q hL)]
    exact e.keep b o q n t
  · refine e.dom b fun o q => ?_
    have ne : b ≠ L := by
      intro z
      rw [z] at v
      exact v.no upd_same fun ps z => nomatch z
    exact v o (by rw [upd_ne ne]; exact q)
  · obtain ⟨o, e, _⟩ := ok.W0 L (.inl (ok.fW L (ok.wV L q)))
    rw [hL] at e
    cases e

/-! ### targets that bind the comprehension's own names -/
def PostGv (g : Gh) (vs : List Nat) (A : List Addr) (σ : L2.St) (H : Hp) (Q : L2.St → Hp → Prop) : List Slot → Prop := fun δ' => ∀ σ', Ok g A δ' σ' H → L2.wipe σ' vs = L2.wipe σ vs → Q σ' H
def LiftGv (g : Gh) (vs : List Nat) (t : TDG) : TG := fun v σ H Q => ∃ A δ d, Ok g A δ σ H ∧ Rep g.toCn (g.bar A) H v d ∧ t d δ (PostGv g vs A σ H Q)
def LiftGvs (g : Gh) (vs : List Nat) (t : TDGs) : TGs := fun ws σ H Q => ∃ A δ ds, Ok g A δ σ H ∧ Reps g.toCn (g.bar A) H ws ds ∧ t ds δ (PostGv g vs A σ H Q)
structure DGv (X : Cx) (g : Gh) (vs : List Nat) (target : Expr) (t : TDG) : Prop where
  pg : PG X target (LiftGv g vs t)
  mono : ∀ d δ (K K' : List Slot → Prop), (∀ x, K x → K' x) → t d δ K → t d δ K'
structure DGvs (X : Cx) (g : Gh) (vs : List Nat) (ts : List Expr) (t : TDGs) : Prop where
  pgs : PGs X ts (LiftGvs g vs t)
  mono : ∀ d δ (K K' : List Slot → Prop), (∀ x, K x → K' x) → t d δ K → t d δ K'
theorem wipe_set {o : Option V} {i : Nat} : ∀ {vs : List Nat} {σ : L2.St}, i ∈ vs → L2.wipe (σ.set i o) vs = L2.wipe σ vs
  | v :: vs, σ, h => by
    by_cases hv : i ∈ vs
    · show (L2.wipe (σ.set i o) vs).set v none = (L2.wipe σ vs).set v none
      rw [wipe_set hv]
    · have e : i = v := (List.mem_cons.mp h).elim id fun z => (hv z).elim
      subst e
      have : ∀ (us : List Nat) (σ : L2.St), i ∉ us → (L2.wipe (σ.set i o) us).set i none = (L2.wipe σ us).set i none := by
        intro us
        induction us with
        | nil => intro σ _; show (σ.set i o).set i none = σ.set i none; rw [List.set_set]
        | cons u us ih =>
          intro σ hu
          have h1 : u ≠ i := fun z => hu (by rw [z]; exact List.mem_cons_self)
          have h2 : i ∉ us := fun z => hu (List.mem_cons_of_mem _ z)
          show ((L2.wipe (σ.set i o) us).set u none).set i none = ((L2.wipe σ us).set u none).set i none
          rw [List.set_comm _ _ h1, ih σ h2, List.set_comm _ _ (Ne.symm h1)]
      exact this vs σ hv
theorem dgv_name (i : Nat) {x : Str} {pos : Pos} {vs : List Nat} (z : Cb X g) (hv : i ∈ vs) (hi : X.N[i]? = some x) (hx : Loc X.env.scope x) (hf : X.fn x = true ∨ X.env.scope.names.lookup x = some .local := by first | exact .inl rfl | exact .inr rfl | assumption) : DGv X g vs (.Name x pos) (dgName i) :=
  ⟨PG.weak (pg_name z.nd hi hx hf) fun v σ H Q ⟨A, δ, d, ok, r, h⟩ => h _ (ok.setVal r i) (wipe_set hv), fun d δ K K' hk h => hk _ h⟩
theorem dgvs_nil {vs : List Nat} : DGvs X g vs [] dgNil := by
  refine ⟨PGs.weak pgs_nil fun ws σ H Q ⟨A, δ, ds, ok, r, h⟩ => ?_, fun d δ K K' hk h => ⟨h.1, hk _ h.2⟩⟩
  obtain ⟨e, h⟩ := h
  subst e
  cases r
  exact ⟨rfl, h σ ok rfl⟩
theorem dgvs_cons {e : Expr} {es : List Expr} {t : TDG} {u : TDGs} {vs : List Nat} (h1 : DGv X g vs e t) (h2 : DGvs X g vs es u) (hs : (assignEach (e :: es) X.env).map (·.2) = assign e X.env :: (assignEach es X.env).map (·.2) := by rfl) : DGvs X g vs (e :: es) (dgCons t u) := by
  refine ⟨PGs.weak (pgs_cons h1.pg h2.pgs hs) fun ws σ H Q ⟨A, δ, ds, ok, r, h⟩ => ?_, fun d δ K K' hk h => ?_⟩
  · cases r with
    | nil => exact h.elim
    | cons r rr =>
      refine ⟨_, _, rfl, A, δ, _, ok, r, h1.mono _ _ _ _ (fun δ' h σ' ok' e' => ?_) h⟩
      exact ⟨A, δ', _, ok', rr, h2.mono _ _ _ _ (fun x hx σ2 ok2 e2 => hx σ2 ok2 (e2.trans e')) h⟩
  · cases d with
    | nil => exact h
    | cons d r => exact h1.mono _ _ _ _ (fun δ' h => h2.mono _ _ _ _ hk h) h
theorem dgv_tup {es : List Expr} {kk : Nat} {t : TDGs} {n : Nat} {vs : List Nat} {pos : Pos} (z : Cz X g EX j) (h : DGvs X g vs es t) (hn : (assignEach es X.env).length = n := by rfl) (hst : (assignEach es X.env).findIdx? (·.1) = none := by rfl) : DGv X g vs (.Tuple es kk pos) (dgTup n t) := by
  refine ⟨PG.weak (pg_tup z.calm h.pgs hn hst) fun v σ H Q ⟨A, δ, d, ok, r, q⟩ => ?_, fun d δ K K' hk q => ?_⟩
  · cases d with
    | tup ds =>
      obtain ⟨a, ws, e1, e2, e3⟩ := r.isTup
      rw [← z.hK]
      exact ⟨a, ws, e1, e2, by rw [e3.length]; exact q.1, A, δ, ds, ok, e3, q.2⟩
    | _ => exact (show False from q).elim
  · cases d with
    | tup ds => exact ⟨q.1, h.mono _ _ _ _ hk q.2⟩
    | _ => exact (show False from q).elim
/-! ### tests of a clause -/
structure DTs (X : Cx) (g : Gh) (ifs : List Expr) (t : TDT) : Prop where
  pts : PTs X ifs (LiftT g t)
  mono : ∀ δ (K K' : Bool → Prop), (∀ d, K d → K' d) → t δ K → t δ K'
theorem PTs.weak {ifs : List Expr} {t t' : TT} (h : PTs X ifs t) (w : ∀ σ H Q, t' σ H Q → t σ H Q) : PTs X ifs t' := ⟨fun pins s σ H Q I q => h.run pins s σ H Q I (w σ H Q q)⟩
def dYes : TDT := fun _ K => K true
theorem dts_nil : DTs X g [] dYes := ⟨PTs.weak pts_nil fun σ H Q ⟨A, δ, ok, h⟩ => h H (Ext.refl _ _) ok.jd, fun _ _ _ hk h => hk _ h⟩
theorem dts_one {c : Expr} {t : TDT} (h : DT X g c t) : DTs X g [c] t := ⟨pts_one h.pt, h.mono⟩
/-! ### the turns -/
def lcT (tg : TDG) (tt : TDT) (te : TD) (δ : List Slot) (K : List D → Prop) : List D → List D → Prop
  | [], acc => K acc
  | d :: ds, acc => tg d δ fun δ2 => tt δ2 fun b => if b = true then te δ2 fun y => acc.length < sizeLine ∧ lcT tg tt te δ K ds (acc ++ [y]) else lcT tg tt te δ K ds acc
/-- ti gives the items -/
abbrev TDI := List Slot → (List D → Prop) → Prop
def dLcV (ti : TDI) (tg : TDG) (tt : TDT) (te : TD) (vs : List Nat) : TDV := fun δ K => ti δ fun ds => lcT tg tt te (wipeD (δ.map hideS) vs) (fun acc => K (.own acc)) ds []
/-- what is known of a ghost from within -/
abbrev GhIn (X : Cx) (T : List (Addr × Str)) (g : Gh) : Prop := g.K = X.K ∧ g.mg = X.mg ∧ g.T = T
abbrev exG (P : Gh → Prop) (t : Gh → TG) : TG := fun v σ H Q => ∃ g, P g ∧ t g v σ H Q
abbrev exT (P : Gh → Prop) (t : Gh → TT) : TT := fun σ H Q => ∃ g, P g ∧ t g σ H Q
abbrev exE (P : Gh → Prop) (t : Gh → TE) : TE := fun σ H Q => ∃ g, P g ∧ t g σ H Q
end
end DL

set_option Elab.async false
set_option linter.all false
set_option maxRecDepth 100000
set_option maxHeartbeats 8000000
/-! DL19: list comprehensions: the rules. -/
namespace DL
open PySem PySem.Spec PyProof.Rows L2
section
variable {X : Cx} {g : Gh} {EX : List Slot → Exc → Prop} {k : Nat} {A : List Addr} {δ : List Slot} {σ : L2.St} {H : Hp}
theorem wipe_wipe {vs : List Nat} {σ : L2.St} : ∀ us : List Nat, (∀ u ∈ us, u ∈ vs) → L2.wipe (L2.wipe σ us) vs = L2.wipe σ vs
  | [], _ => rfl
  | u :: us, h => by
    show L2.wipe ((L2.wipe σ us).set u none) vs = _
    rw [wipe_set (h u List.mem_cons_self)]
    exact wipe_wipe us fun w hw => h w (List.mem_cons_of_mem _ hw)
theorem takesN0 {X : Cx} {g : Gh} : L2N.Takes X (WXof g fun _ _ => False) := fun _ _ x => by
  obtain ⟨_, _, _, _, _, _, _, _, _, _, _, _, _, _, _, _, z⟩ := x
  obtain ⟨_, _, _, _, _, z⟩ := z
  exact z.elim
abbrev blkX (X : Cx) (s : Shared) (H : Hp) (scope : Scope) (cl : List (Str × Addr)) (C : Addr) (fp : List Addr) : Cx := X.blk s H scope (compEnvC scope cl C X.env) fp
theorem Cz.blk (z : Cz X g EX k) {g' : Gh} (p : GhIn X g.T g') (s : Shared) (H : Hp) (scope : Scope) (cl : List (Str × Addr)) (C : Addr) (fp : List Addr) : Cz (blkX X s H scope cl C fp) g' (fun _ _ => False) k :=
  ⟨⟨p.1, p.2.1, z.b.hu, z.b.gd, z.b.nd⟩, z.room, z.calm, takesN0⟩
/-- the parts of a comprehension, from within -/
structure LcIn (X : Cx) (T : List (Addr × Str)) (k : Nat) (vs : List Nat) (scope : Scope) (tg : Expr) (ifs : List Expr) (elt : Expr) (tgd : TDG) (ttd : TDT) (ted : TD) : Prop where
  go : ∀ (s : Shared) (H : Hp) (C : Addr) (cl : List (Str × Addr)) (fp : List Addr) (g' : Gh), GhIn X T g' → Cz (blkX X s H scope cl C fp) g' (fun _ _ => False) k → DGv (blkX X s H scope cl C fp) g' vs tg tgd ∧ DTs (blkX X s H scope cl C fp) g' ifs ttd ∧ DE (blkX X s H scope cl C fp) g' elt ted
variable {vs : List Nat} {scope : Scope} {tg elt iter : Expr} {ifs : List Expr} {tgd : TDG} {ttd : TDT} {ted : TD}
theorem LcIn.mg (l : LcIn X g.T k vs scope tg ifs elt tgd ttd ted) (z : Cz X g EX k) : ∀ d δ (K K' : List Slot → Prop), (∀ x, K x → K' x) → tgd d δ K → tgd d δ K' := (l.go X.s_0 X.H_0 0 [] [] g ⟨z.hK, z.hmg, rfl⟩ (z.blk ⟨z.hK, z.hmg, rfl⟩ _ _ _ _ _ _)).1.mono
theorem LcIn.mt (l : LcIn X g.T k vs scope tg ifs elt tgd ttd ted) (z : Cz X g EX k) : ∀ δ (K K' : Bool → Prop), (∀ d, K d → K' d) → ttd δ K → ttd δ K' := (l.go X.s_0 X.H_0 0 [] [] g ⟨z.hK, z.hmg, rfl⟩ (z.blk ⟨z.hK, z.hmg, rfl⟩ _ _ _ _ _ _)).2.1.mono
theorem LcIn.me (l : LcIn X g.T k vs scope tg ifs elt tgd ttd ted) (z : Cz X g EX k) : ∀ δ (K K' : D → Prop), (∀ d, K d → K' d) → ted δ K → ted δ K' := (l.go X.s_0 X.H_0 0 [] [] g ⟨z.hK, z.hmg, rfl⟩ (z.blk ⟨z.hK, z.hmg, rfl⟩ _ _ _ _ _ _)).2.2.mono
theorem lcT_mono (mg : ∀ d δ (K K' : List Slot → Prop), (∀ x, K x → K' x) → tgd d δ K → tgd d δ K') (mt : ∀ δ (K K' : Bool → Prop), (∀ d, K d → K' d) → ttd δ K → ttd δ K') (me : ∀ δ (K K' : D → Prop), (∀ d, K d → K' d) → ted δ K → ted δ K') {δ : List Slot} {K K' : List D → Prop} (hk : ∀ ds, K ds → K' ds) :
    ∀ ds acc, lcT tgd ttd ted δ K ds acc → lcT tgd ttd ted δ K' ds acc
  | [], acc, h => hk _ h
  | d :: ds, acc, h => mg _ _ _ _ (fun δ2 h => mt _ _ _ (fun b h => by
    cases b with
    | true => exact me _ _ _ (fun y h => ⟨h.1, lcT_mono mg mt me hk ds _ h.2⟩) h
    | false => exact lcT_mono mg mt me hk ds _ h) h) h
abbrev gLc (X : Cx) (T : List (Addr × Str)) (vs : List Nat) (tgd : TDG) : TG := exG (GhIn X T) fun g => LiftGv g vs tgd
abbrev tLcT (X : Cx) (T : List (Addr × Str)) (ttd : TDT) : TT := exT (GhIn X T) fun g => LiftT g ttd
abbrev eLc (X : Cx) (T : List (Addr × Str)) (ted : TD) : TE := exE (GhIn X T) fun g => LiftE g ted
theorem LcIn.pg (l : LcIn X g.T k vs scope tg ifs elt tgd ttd ted) (z : Cz X g EX k) (s : Shared) (H : Hp) (C : Addr) (cl : List (Str × Addr)) (fp : List Addr) : PG (blkX X s H scope cl C fp) tg (gLc X g.T vs tgd) := ⟨fun pins s' σ H' v u Q I r ⟨g', p, q⟩ => (l.go s H C cl fp g' p (z.blk p _ _ _ _ _ _)).1.pg.run pins s' σ H' v u Q I r q⟩
theorem LcIn.pt (l : LcIn X g.T k vs scope tg ifs elt tgd ttd ted) (z : Cz X g EX k) (s : Shared) (H : Hp) (C : Addr) (cl : List (Str × Addr)) (fp : List Addr) : PTs (blkX X s H scope cl C fp) ifs (tLcT X g.T ttd) := ⟨fun pins s' σ H' Q I ⟨g', p, q⟩ => (l.go s H C cl fp g' p (z.blk p _ _ _ _ _ _)).2.1.pts.run pins s' σ H' Q I q⟩
theorem LcIn.pe (l : LcIn X g.T k vs scope tg ifs elt tgd ttd ted) (z : Cz X g EX k) (s : Shared) (H : Hp) (C : Addr) (cl : List (Str × Addr)) (fp : List Addr) : PE (blkX X s H scope cl C fp) elt (eLc X g.T ted) := ⟨fun pins s' σ H' Q I ⟨g', p, q⟩ => (l.go s H C cl fp g' p (z.blk p _ _ _ _ _ _)).2.2.pe.run pins s' σ H' Q I q⟩
/-- where a turn stands -/
def LcP (g : Gh) (A : List Addr) (H1 : Hp) (L : Addr) (K : List D → List D → Prop) (its : List D) (i : Nat) (H : Hp) : Prop :=
  ∃ acc as, Ext g.V H1 H ∧ JD g.toCn H ∧ H L = some (.lst acc) ∧ Reps g.toCn (fun b => g.bar A b ∨ b = L) H acc as ∧ K (its.drop i) as
theorem lc_turn (l : LcIn X g.T k vs scope tg ifs elt tgd ttd ted) (z : Cz X g EX k) {H1 : Hp} (ok : Ok g A δ σ H1) {L : Addr} (hL : H1 L = none) {Kf : List D → Prop} {its : List D} {i : Nat} {H : Hp} {d : D} {x : V}
    (hi : its.drop i = d :: its.drop (i + 1)) (hx : Rep g.toCn (g.bar A) H1 x d) (p : LcP g A H1 L (lcT tgd ttd ted (wipeD (δ.map hideS) vs) Kf) its i H) :
    gLc X g.T vs tgd x (L2.wipe σ vs) H fun σ2 H2 => L2.wipe σ2 vs = L2.wipe σ vs ∧ tLcT X g.T ttd σ2 H2 fun b H3 =>
      if b = true then eLc X g.T ted σ2 H3 fun y H4 => ∃ acc, H4 L = some (.lst acc) ∧ acc.length < sizeLine ∧ LcP g A H1 L (lcT tgd ttd ted (wipeD (δ.map hideS) vs) Kf) its (i + 1) (upd H4 L (.lst (acc ++ [y])))
      else LcP g A H1 L (lcT tgd ttd ted (wipeD (δ.map hideS) vs) Kf) its (i + 1) H3 := by
  obtain ⟨acc, as, e, j, hacc, racc, h⟩ := p
  have gi : GhIn X g.T (g.lc A L H) := ⟨z.hK, z.hmg, rfl⟩
  have ok2 := ok.lc hL e j hacc vs
  have nV : ¬ g.V L := fun q => by
    obtain ⟨o, e, _⟩ := ok.W0 L (.inl (ok.fW L q))
    rw [hL] at e
    cases e
  have fV : ∀ b, g.V b → g.bar A b ∨ b = L := fun b hb => .inl (.inl (ok.fW b hb))
  have rx : Rep (g.lc A L H).toCn ((g.lc A L H).bar []) H x d := by
    have r1 : Rep g.toCn (fun b => g.bar A b ∨ b = L) H1 x d := hx.anti fun b hb => hb.imp id fun q => by rw [q]; exact vac.of hL
    exact (r1.ext (e.mono fV)).anti fun b hb => .inl (hb.elim id fun q => by cases q)
  rw [hi] at h
  refine ⟨_, gi, [], _, d, ok2, rx, l.mg z _ _ _ _ (fun δ2 h σ2 oks es => ?_) h⟩
  refine ⟨es.trans (wipe_wipe vs fun _ h => h), ?_⟩
  refine ⟨_, gi, [], δ2, oks, l.mt z _ _ _ (fun b h H3 e3 j3 => ?_) h⟩
  have e3 : Ext g.V H H3 := e3
  cases b with
  | false => exact ⟨acc, as, e.trans e3, j3, e3.keep _ _ hacc nV (fun ps z => nomatch z), racc.ext (e3.mono fV), h⟩
  | true =>
    refine ⟨_, gi, [], δ2, oks.step e3 j3, l.me z _ _ _ (fun y h v H4 e4 j4 r4 => ?_) h⟩
    have e4 : Ext g.V H3 H4 := e4
    have hacc4 : H4 L = some (.lst acc) := (e3.trans e4).keep _ _ hacc nV fun ps z => nomatch z
    have racc4 := racc.ext ((e3.trans e4).mono fV)
    obtain ⟨h1, h2⟩ := h
    refine ⟨acc, hacc4, by rw [racc.length]; exact h1, ?_⟩
    obtain ⟨e5, j5⟩ := ok.lcPut hL (e.trans (e3.trans e4)) j4 hacc4 (acc' := acc ++ [v])
    refine ⟨acc ++ [v], as ++ [y], e5, j5, upd_same, ?_, h2⟩
    have r4' : Rep g.toCn (fun b => g.bar A b ∨ b = L) H4 v y := r4.anti fun b hb => .inl (.inl hb)
    exact (racc4.append (.cons r4' .nil)).ext (ext_upd (fun ps z => by cases z) (.inr rfl))
/-- the whole walk, for any iterable whose items are its -/
theorem lc_end (z : Cz X g EX k) {H0 H1 : Hp} (ok0 : Ok g A δ σ H0) (e0 : Ext g.V H0 H1) (ok : Ok g A δ σ H1) {L : Addr} (hL : H1 L = none) {Q : VK} {its : List D} {n : Nat} (hn : its.length ≤ n) {K : List D → Prop} (hK : K = fun acc => PostV g A H0 Q (.own acc)) {H : Hp}
    (p : LcP g A H1 L (lcT tgd ttd ted (wipeD (δ.map hideS) vs) K) its n H) : Q (.ref L) H := by
  obtain ⟨acc, as, e, j, hacc, racc, h⟩ := p
  rw [List.drop_eq_nil_of_le hn] at h
  subst hK
  have h : PostV g A H0 Q (.own as) := h
  exact h L acc H (e0.trans e) j (e0.dom L (vac.of hL)) hacc (racc.anti fun b hb => .inl (by
    rcases hb with q | q
    · exact .inl (.inl q)
    · rcases List.mem_cons.mp q with q | q
      · exact .inr q
      · exact .inl (.inr q)))
def tiSeq (te : TD) : TDI := fun δ K => te δ fun d => ∃ ds, itemsD d = some ds ∧ K ds
def tiR (te : TD) : TDI := fun δ K => te δ fun d => match d with
  | .int n => -(2 ^ 62) ≤ n ∧ n < 2 ^ 62 ∧ K (rangeD 0 n)
  | _ => False
def tiR2 (ta te : TD) : TDI := fun δ K => ta δ fun c => te δ fun d => match c, d with
  | .int m, .int n => (-(2 ^ 62) ≤ m ∧ m < 2 ^ 62 ∧ -(2 ^ 62) ≤ n ∧ n < 2 ^ 62) ∧ K (rangeD m n)
  | _, _ => False
/-- an iterable over data -/
structure DI (X : Cx) (g : Gh) (tg iter : Expr) (ti : TDI) : Prop where
  ex : ∃ wi : TI, PI X tg iter wi ∧ ∀ (A : List Addr) (δ : List Slot) (σ : L2.St) (H : Hp) (R : It → Hp → Prop), Ok g A δ σ H → (ti δ fun its => ∀ H1, Ext g.V H H1 → JD g.toCn H1 →
      (∀ a vs, (∀ A' H', Later g A H1 A' H' → SqL X.K H' a vs) → Reps g.toCn (g.bar A) H1 vs its → R (Itl X.K a) H1) ∧ (∀ a vs, (∀ A' H', Later g A H1 A' H' → SqT X.K H' a vs) → Reps g.toCn (g.bar A) H1 vs its → R (Itt X.K a) H1) ∧ ∀ (lo : Int) (n : Nat), its = ((List.range n).map fun i : Nat => D.int (lo + (i : Int))) → R (Itr lo n) H1) → wi σ H R
  mono : ∀ δ (K K' : List D → Prop), (∀ ds, K ds → K' ds) → ti δ K → ti δ K'
theorem di_seq {te : TD} (z : Cz X g EX k) (h : DE X g iter te) : DI X g tg iter (tiSeq te) := by
  refine ⟨⟨_, pi_seq h.pe, fun A δ σ H R ok q => ⟨A, δ, ok, h.mono _ _ _ (fun d ⟨its, e, q⟩ v H1 e1 j1 r1 => ?_) q⟩⟩, fun δ K K' hk q => h.mono _ _ _ (fun d ⟨ds, e, q⟩ => ⟨ds, e, hk _ q⟩) q⟩
  obtain ⟨q1, q2, q3⟩ := q H1 e1 j1
  cases d with
  | lst xs =>
    cases e
    cases r1 with
    | @lst a vs _ h1 h2 h3 => exact ⟨a, rfl, .inl ⟨⟨vs, .of h1⟩, q1 a vs (fun A' H' l => (later_seq l (.inl h2)).1 (.of h1)) h3⟩⟩
  | tup xs =>
    cases e
    cases r1 with
    | @tup a vs _ h1 h2 h3 => exact ⟨a, rfl, .inr ⟨⟨vs, .inl h1⟩, q2 a vs (fun A' H' l => (later_seq l (.inl h2)).2 (.inl h1)) h3⟩⟩
    | @tupK a vs _ h1 h3 => exact ⟨a, rfl, .inr ⟨⟨vs, by rw [← z.hK]; exact h1 H1⟩, q2 a vs (fun A' H' _ => by rw [← z.hK]; exact h1 H') h3⟩⟩
  | _ => cases e
theorem di_range {a : Expr} {te : TD} {p pos' : Pos} (hgl : Gl X "range") (hm : X.mg "range" = none) (h : DE X g a te) (hs : starEach [a] X.env = [(false, eval a X.env)] := by rfl) (hs3 : starEach (a :: []) X.env = (false, eval a X.env) :: starEach [] X.env := by rfl) : DI X g tg (.Call (.Name "range" p) [a] [] pos') (tiR te) := by
  refine ⟨⟨_, pi_range1 hgl hm (pa_cons h.pe pa_nil hs3) hs, fun A δ σ H R ok q => ⟨A, δ, ok, h.mono _ _ _ (fun d hd v H1 e1 j1 r1 => ?_) q⟩⟩, fun δ K K' hk q => h.mono _ _ _ (fun d hd => ?_) q⟩
  · cases r1 with
    | int n =>
      refine ⟨n, rfl, hd.1, hd.2.1, (hd.2.2 H1 e1 j1).2.2 0 n.toNat ?_⟩
      unfold rangeD
      rw [Int.sub_zero]
    | _ => exact (show False from hd).elim
  · cases d with
    | int n => exact ⟨hd.1, hd.2.1, hk _ hd.2.2⟩
    | _ => exact hd
theorem di_range2 {a b : Expr} {ta te : TD} {p pos' : Pos} (hgl : Gl X "range") (hm : X.mg "range" = none) (ha : DE X g a ta) (h : DE X g b te) (hs : starEach [a, b] X.env = [(false, eval a X.env), (false, eval b X.env)] := by rfl) (hs2 : starEach [b] X.env = [(false, eval b X.env)] := by rfl) (hs3 : starEach (a :: [b]) X.env = (false, eval a X.env) :: starEach [b] X.env := by rfl) (hs4 : starEach (b :: []) X.env = (false, eval b X.env) :: starEach [] X.env := by rfl) : DI X g tg (.Call (.Name "range" p) [a, b] [] pos') (tiR2 ta te) := by
  refine ⟨⟨_, pi_range2 hgl hm (pa_cons ha.pe (pa_cons h.pe pa_nil hs4) hs3) hs hs2, fun A δ σ H R ok q => ⟨A, δ, ok, ha.mono _ _ _ (fun c hc v H1 e1 j1 r1 => ⟨A, δ, ok.step e1 j1, h.mono _ _ _ (fun d hd v2 H2 e2 j2 r2 => ?_) hc⟩) q⟩⟩, fun δ K K' hk q => ha.mono _ _ _ (fun c hc => h.mono _ _ _ (fun d hd => ?_) hc) q⟩
  · cases r1 with
    | int m => cases r2 with
      | int n =>
        refine ⟨m, n, rfl, hd.1, (hd.2 H2 (e1.trans e2) j2).2.2 m (n - m).toNat ?_⟩
        rfl
      | _ => exact (show False from hd).elim
    | _ => cases r2 <;> exact (show False from hd).elim
  · cases c with
    | int m => cases d with
      | int n => exact ⟨hd.1, hk _ hd.2⟩
      | _ => exact hd
    | _ => cases d <;> exact hd
/-- what the walk asks, from the data's reading -/
theorem lc_body {ti : TDI} (l : LcIn X g.T k vs scope tg ifs elt tgd ttd ted) (z : Cz X g EX k) (hi : DI X g tg iter ti) {wi : TI} (hw : ∀ (A : List Addr) (δ : List Slot) (σ : L2.St) (H : Hp) (R : It → Hp → Prop), Ok g A δ σ H → (ti δ fun its => ∀ H1, Ext g.V H H1 → JD g.toCn H1 →
      (∀ a vs, (∀ A' H', Later g A H1 A' H' → SqL X.K H' a vs) → Reps g.toCn (g.bar A) H1 vs its → R (Itl X.K a) H1) ∧ (∀ a vs, (∀ A' H', Later g A H1 A' H' → SqT X.K H' a vs) → Reps g.toCn (g.bar A) H1 vs its → R (Itt X.K a) H1) ∧ ∀ (lo : Int) (n : Nat), its = ((List.range n).map fun i : Nat => D.int (lo + (i : Int))) → R (Itr lo n) H1) → wi σ H R)
    (ok : Ok g A δ σ H) {Q : VK} (h : dLcV ti tgd ttd ted vs δ (PostV g A H Q)) : tLc wi (gLc X g.T vs tgd) (tLcT X g.T ttd) (eLc X g.T ted) vs σ H Q := by
  refine hw A δ σ H _ ok (hi.mono _ _ _ (fun its h H1 e1 j1 => ?_) h)
  have ok1 := ok.step e1 j1
  have p0 : ∀ L, H1 L = none → LcP g A H1 L (lcT tgd ttd ted (wipeD (δ.map hideS) vs) fun acc => PostV g A H Q (.own acc)) its 0 (upd H1 L (.lst [])) := fun L hL => ⟨[], [], Ext.new hL, j1.new hL, upd_same, .nil, h⟩
  refine ⟨fun a ws hq rs => ?_, fun a ws hq rs => ?_, fun lo n en => ?_⟩
  · intro L hL
    refine lc_list (K := X.K) (a := a) (xs := ws) (Qd := fun H' => Q (.ref L) H') (LcP g A H1 L (lcT tgd ttd ted (wipeD (δ.map hideS) vs) fun acc => PostV g A H Q (.own acc)) its) (p0 L hL) (fun i H' _ p => ?_) (fun i x H' hx p => ?_) (fun H' p => ?_)
    · obtain ⟨acc, as, e, _⟩ := p
      exact hq A H' (later_of ok1 e)
    · obtain ⟨d, e2, rd⟩ := reps_head rs hx
      exact lc_turn l z ok1 hL e2 rd p
    · exact lc_end (n := ws.length) z ok e1 ok1 hL (by rw [rs.length]; exact Nat.le_refl _) rfl p
  · intro L hL
    refine lc_tup (K := X.K) (a := a) (xs := ws) (Qd := fun H' => Q (.ref L) H') (LcP g A H1 L (lcT tgd ttd ted (wipeD (δ.map hideS) vs) fun acc => PostV g A H Q (.own acc)) its) (p0 L hL) (fun i H' _ p => ?_) (fun i x H' hx p => ?_) (fun H' p => ?_)
    · obtain ⟨acc, as, e, _⟩ := p
      exact hq A H' (later_of ok1 e)
    · obtain ⟨d, e2, rd⟩ := reps_head rs hx
      exact lc_turn l z ok1 hL e2 rd p
    · exact lc_end (n := ws.length) z ok e1 ok1 hL (by rw [rs.length]; exact Nat.le_refl _) rfl p
  · intro L hL
    refine lc_range (lo := lo) (n := n) (Qd := fun H' => Q (.ref L) H') (LcP g A H1 L (lcT tgd ttd ted (wipeD (δ.map hideS) vs) fun acc => PostV g A H Q (.own acc)) its) (p0 L hL) (fun i H' hlt p => ?_) (fun H' p => ?_)
    · exact lc_turn (d := .int (lo + (i : Int))) l z ok1 hL (by rw [en]; exact drop_range hlt) (.int _) p
    · exact lc_end (n := n) z ok e1 ok1 hL (by rw [en]; simp) rfl p
theorem lc_mono {ti : TDI} (l : LcIn X g.T k vs scope tg ifs elt tgd ttd ted) (z : Cz X g EX k) (hi : DI X g tg iter ti) : ∀ δ (K K' : Slot → Prop), (∀ d, K d → K' d) → dLcV ti tgd ttd ted vs δ K → dLcV ti tgd ttd ted vs δ K' := fun δ K K' hk h =>
  hi.mono _ _ _ (fun ds h => lcT_mono (l.mg z) (l.mt z) (l.me z) (fun acc q => hk _ q) ds [] h) h
theorem dv_lc {ti : TDI} {own : List (Str × Nat)} {pos : Pos} (z : Cz X g EX k) (hi : DI X g tg iter ti) (bo : BlkOk X.N X.env.scope scope own) (l : LcIn X g.T k (own.map (·.2)) scope tg ifs elt tgd ttd ted) (hs : ∀ x, foldedSetIterable iter X.env x = pure x := by intro _; rfl) :
    DV X g (.ListComp elt [⟨tg, iter, ifs, 0⟩] scope pos) (dLcV ti tgd ttd ted (own.map (·.2))) := by
  obtain ⟨wi, hp, hw⟩ := hi.ex
  exact ⟨PE.weak (pe_lc z.calm z.nd hp bo (fun s H C cl fp => l.pg z s H C cl fp) (fun s H C cl fp => l.pt z s H C cl fp) (fun s H C cl fp => l.pe z s H C cl fp) hs) fun σ H Q ⟨A, δ, ok, h⟩ => lc_body l z hi hw ok h, lc_mono l z hi⟩
/-- x = [..] on one line -/
theorem ds_setLc (i : Nat) {y : Str} {py pos spos : Pos} {ti : TDI} {own : List (Str × Nat)} (z : Cz X g EX k) (hy : X.N[i]? = some y) (hyl : X.env.scope.names.lookup y = some .local) (hi : DI X g tg iter ti) (bo : BlkOk X.N X.env.scope scope own) (l : LcIn X g.T k (own.map (·.2)) scope tg ifs elt tgd ttd ted)
    (hsw : swapsWith (.ListComp elt [⟨tg, iter, ifs, 0⟩] scope pos) (some (.Name y py)) spos.line X.env = pure true) (hs : ∀ x, foldedSetIterable iter X.env x = pure x := by intro _; rfl) :
    DS X g (.Assign [.Name y py] (.ListComp elt [⟨tg, iter, ifs, 0⟩] scope pos) spos) (dSet i (dLcV ti tgd ttd ted (own.map (·.2)))) := by
  obtain ⟨wi, hp, hw⟩ := hi.ex
  refine ⟨PS.weak (ps_setLc z.calm z.nd hy hyl hsw hp bo (fun s H C cl fp => l.pg z s H C cl fp) (fun s H C cl fp => l.pt z s H C cl fp) (fun s H C cl fp => l.pe z s H C cl fp) hs) fun N σ H ⟨A, δ, ok, h⟩ => ?_, fun D1 D2 δ le h => lc_mono l z hi _ _ _ (fun d hd => ⟨hd.1, le.nx _ hd.2⟩) h⟩
  exact lc_body l z hi hw ok (lc_mono l z hi _ _ _ (fun s hs => slot_put ok i (isS_ne hs.1) hs.2) h)
end
end DL

set_option Elab.async false
set_option linter.all false
set_option maxRecDepth 100000
set_option maxHeartbeats 8000000
/-! DL20: calls with the tables told apart; promises that are functions of data. -/
namespace DL
open PySem PySem.Spec PyProof.Rows L2
section
variable {X : Cx} {g : Gh} {EX : List Slot → Exc → Prop} {j k : Nat} {T : List (Addr × Str)}
theorem de_callT (hT : g.T = T) {x : Str} {S : Spec} {e : Expr} {es : List Expr} {u : TDA} {q pos : Pos} (z : Cz X g EX j) (d : Def X.prog X.w X.K X.mg X.base T k x S) (hk : k ≤ j) (hg : Gl X x) (ha : DA X g (e :: es) u)
    (hdb : (x == ("__debug__" : Str)) = false := by decide) (he : starEach (e :: es) X.env = (false, eval e X.env) :: starEach es X.env := by rfl) (hpl : (backTo pos (starEach es X.env)).any (·.1) = false := by rfl) : DE X g (.Call (.Name x q) (e :: es) [] pos) (dCall S EX u) := by
  subst hT
  exact de_call z d hk hg ha hdb he hpl
theorem de_callT0 (hT : g.T = T) {x : Str} {S : Spec} {q pos : Pos} (z : Cz X g EX j) (d : Def X.prog X.w X.K X.mg X.base T k x S) (hk : k ≤ j) (hg : Gl X x) (hdb : (x == ("__debug__" : Str)) = false := by decide) : DE X g (.Call (.Name x q) [] [] pos) (dCall S EX daNil) := by
  subst hT
  exact de_call0 z d hk hg hdb
theorem de_callXT (hT : g.T = T) {a : Addr} {x : Exc} {n : Str} {S : SpecX} {e : Expr} {te : TD} {q pos : Pos} (c : Ch X g a x j) (d : DefX X.prog X.w X.K X.mg X.base T k n S) (hk : k ≤ j) (hg : Gl X n) (ha : DE X g e te)
    (hdb : (n == ("__debug__" : Str)) = false := by decide) (he : starEach (e :: []) X.env = (false, eval e X.env) :: starEach [] X.env := by rfl) (hpl : (backTo pos (starEach [] X.env)).any (·.1) = false := by rfl) : DE X g (.Call (.Name n q) [e] [] pos) (dCallX S x a te) := by
  subst hT
  exact de_callX c d hk hg ha hdb he hpl
end
/-- no promise at all -/
theorem def_never {P : Program} {w : World} {K : PySem.W.Frag} {mg : Str → Option Value} {base : Heap} {T : List (Addr × Str)} {k : Nat} {x : Str} {st : Stmt} {f : Addr} {fd : FuncData} {ps : List Str} (F : Fun K x x st f fd) (hm : mg x = some (.ref f)) (bd : Binds K fd ps []) : Def P w K mg base T k x (fun _ _ _ => False) := by
  refine ⟨⟨f, fd, ps, hm, F.kp, bd, ⟨fun vs H Q E h => ?_, fun A outer s H args us vs Q E hr e0 hb r h => ?_⟩⟩, fun _ _ _ _ _ _ _ h => h.elim⟩
  · obtain ⟨_, _, _, _, _, _, _, h⟩ := h
    exact h.elim
  · obtain ⟨_, _, _, _, _, _, _, h⟩ := h
    exact h.elim
/-- what a def gives: a value, an error -/
inductive Res where
  | val (d : D) | err (x : Exc)
/-- a promise by a function of data -/
def SDet (F : List D → Option Res) : Spec := fun ds K E => match F ds with
  | some (.val d) => K d
  | some (.err x) => E x
  | none => False
theorem sdet_mono {F : List D → Option Res} : SMono (SDet F) := fun ds K K' E E' hk he h => by
  unfold SDet at h ⊢
  split at h
  · exact hk _ h
  · exact he _ h
  · exact h
theorem sdet_val {F : List D → Option Res} {ds : List D} {d : D} {K : D → Prop} {E : Exc → Prop} (h : F ds = some (.val d)) (q : K d) : SDet F ds K E := by
  unfold SDet; rw [h]; exact q
theorem sdet_err {F : List D → Option Res} {ds : List D} {x : Exc} {K : D → Prop} {E : Exc → Prop} (h : F ds = some (.err x)) (q : E x) : SDet F ds K E := by
  unfold SDet; rw [h]; exact q
theorem sdet_len {F : List D → Option Res} {n : Nat} (h : ∀ ds r, F ds = some r → ds.length = n) : ∀ ds K E, SDet F ds K E → ds.length = n := fun ds K E q => by
  unfold SDet at q
  split at q
  · exact h _ _ (by assumption)
  · exact h _ _ (by assumption)
  · exact q.elim
/-- a def without defaults takes what it is given -/
theorem fun_binds {K : PySem.W.Frag} {x q : Str} {st : Stmt} {f : Addr} {fd : FuncData} {ps : List Str} (F : Fun K x q st f fd)
    (h : ∀ (kV doc pm : Value) (an : Option Addr) (cdv ct : Value) (us : List Value), us.length = ps.length → bindArgs (PySem.W.fnOf x q (defArgs st) (defBody st) (defScope st) .none kV doc pm an cdv ct) ⟨us, []⟩ = pure (ps.zip us)) : Binds K fd ps [] := by
  obtain ⟨oc, od, kV, doc, pm, an, cdv, ct, osl, rfl, lk, hcd⟩ := F.ex
  exact Binds.all fun us hl => h kV doc pm an cdv ct us hl
end DL

set_option Elab.async false
set_option linter.all false
set_option maxRecDepth 100000
set_option maxHeartbeats 8000000
/-! DL21: calls of what a name holds; lambdas by tables told apart; an error's kinds. -/
namespace DL
open PySem PySem.Spec PyProof.Rows L2 LamX
/-- Γ: defs that are handed about, their promises -/
abbrev GDefs (P : Program) (w : World) (K : PySem.W.Frag) (mg : Str → Option Value) (base : Heap) (T : List (Addr × Str)) (k : Nat) (Γ : List (Str × Spec)) : Prop := ∀ q ∈ Γ, Def P w K mg base T k q.1 q.2
def dCallV (i : Nat) (Γ : List (Str × Spec)) (EX : List Slot → Exc → Prop) (u : TDA) : TD := fun δ K => match δ[i]? with
  | some (.val (.fn x)) => ∃ S, (x, S) ∈ Γ ∧ u δ fun ds => S ds K (EX δ)
  | _ => False
section
variable {X : Cx} {g : Gh} {EX : List Slot → Exc → Prop} {j k kl : Nat} {T : List (Addr × Str)}
theorem de_callV (i : Nat) (hT : g.T = T) {x : Str} {Γ : List (Str × Spec)} {e : Expr} {es : List Expr} {u : TDA} {q pos : Pos} (z : Cz X g EX j) (dG : GDefs X.prog X.w X.K X.mg X.base T k Γ) (hk : k ≤ j) (ha : DA X g (e :: es) u)
    (hN : X.N[i]? = some x := by rfl) (hv : Vis X.env.scope x := by first | exact Or.inl rfl | exact Or.inr (Or.inl rfl) | exact Or.inr (Or.inr rfl)) (hd : (x == ("__debug__" : Str)) = false := by decide) (hcd : (x == ("__classdict__" : Str)) = false := by decide)
    (he : starEach (e :: es) X.env = (false, eval e X.env) :: starEach es X.env := by rfl) (hpl : (backTo pos (starEach es X.env)).any (·.1) = false := by rfl) : DE X g (.Call (.Name x q) (e :: es) [] pos) (dCallV i Γ EX u) := by
  subst hT
  refine ⟨⟨fun pins s σ H Q I ⟨A, δ, ok, h⟩ => ?_⟩, fun δ K K' hk' h => ?_⟩
  · unfold dCallV at h
    split at h
    · rename_i y hy
      obtain ⟨S, hq, h⟩ := h
      obtain ⟨f, fd, ps, hm, hkp, hb, F⟩ := (dG _ hq).ex
      obtain ⟨v, hs, rv⟩ := ok.get hy
      cases rv with
      | fn hm' =>
        rw [z.hmg, hm] at hm'
        cases hm'
        refine wpAny_Call_Name_kw (thn ((pe_var (pos := q) (i := i) hN hv hd hcd).run pins s σ H (fun v H1 => v = .ref f ∧ H1 = H) I ⟨.ref f, hs, rfl, rfl⟩) fun u0 s1 ⟨v, H1, I1, r1, q1⟩ => ?_)
        obtain ⟨ev, eH⟩ := q1
        subst ev
        rw [eH] at I1
        obtain rfl : u0 = Value.ref f := r1
        refine PySem.W.callWith_K (h₀ := X.base) I1.ok.mod.kin hkp (thn (ha.pa.run pos pins s1 σ H (fun vs H2 => SpOf X.K X.mg g.T S vs H2 Q (WE (WXof g EX) σ)) I1 ?_) fun us s2 ⟨vs, H2, I2, r, z2⟩ => ⟨I2.kIn, ?_⟩) he hpl
        · refine ⟨A, δ, ok, ha.mono _ _ _ (fun ds hS vs H2 e1 j1 r1 => ?_) h⟩
          exact spOf_at (dG _ hq).mono z.hK z.hmg (ok.step e1 j1) r1 ((dG _ hq).mono _ _ _ _ _ (fun d hd => Post.step e1 hd) (fun _ h => h) hS)
        · exact run_fnG F (z.room.mono hk) hb (L2N.passAt z.tk σ) I2 r z2
    · exact h.elim
  · unfold dCallV at h ⊢
    split at h
    · obtain ⟨S, hq, h⟩ := h
      exact ⟨S, hq, ha.mono _ _ _ (fun ds h2 => (dG _ hq).mono _ _ _ _ _ hk' (fun _ h => h) h2) h⟩
    · exact h
theorem de_lamT (hT : g.T = T) {RK : (D → Prop) → Exc → Prop} {tb : (List Slot → Exc → Prop) → TD} {x a : Str} {c P : Addr} {params : Arguments} {body : Expr} {scope : Scope} {p lpos pos : Pos} (z : Cz X g EX j) (fa : FaultD X.prog X.w X.K X.mg X.base T kl x a RK) (hj : kl + 2 ≤ j) (hg : Gl X x)
    (TB : TabB X.base X.mg c P) (hcode : X.env.code = .ref c) (hmT : (P, X.env.qual ++ "<lambda>") ∈ T) (hu : ∀ p ∈ T, p.1 = P → p.2 = X.env.qual ++ "<lambda>")
    (hbody : ∀ (A : Around) (outer : List Env) (s : Shared) (H : Hp) (E : XK) (f c' : Addr) (gL : Gh) (EXL : List Slot → Exc → Prop), gL.T = g.T → Cz (lamX X A outer s H E scope f c') gL EXL kl → DE (lamX X A outer s H E scope f c') gL body (tb EXL))
    (hm : ∀ δ (K K' : D → Prop) (E E' : Exc → Prop), (∀ d, K d → K' d) → (∀ x, E x → E' x) → tb (fun _ => E) δ K → tb (fun _ => E') δ K') (hRK : ∀ (K K' : D → Prop), (∀ d, K d → K' d) → ∀ x, RK K x → RK K' x)
    (L : LamS X.env.scope scope := by exact lamS_by (by decide +kernel)) (hdef : defaultsOf params X.env = ([], []) := by rfl)
    (hbind : ∀ (q : Str) (cl : List (Str × Addr)) (pm cv ctv : Value), bindArgs (PySem.W.kla_fn "<lambda>" q params body scope cl pm cv ctv) ⟨[], []⟩ = pure [] := by intro _ _ _ _ _; rfl)
    (hdb : (x == ("__debug__" : Str)) = false := by decide) (hd : (a == ("__debug__" : Str)) = false := by decide) (hcd : (a == ("__classdict__" : Str)) = false := by decide) :
    DE X g (.Call (.Name x p) [.Lambda params body scope lpos] [] pos) (dLam RK tb) := by
  subst hT
  exact de_lamcall z fa hj hg TB hcode hmT hu L hdef hbind hbody hm hRK hdb hd hcd
end
/-! ### a lambda's reading grows with what is wanted -/
abbrev ME (t : TD) : Prop := ∀ δ (K K' : D → Prop), (∀ d, K d → K' d) → t δ K → t δ K'
abbrev MA (u : TDA) : Prop := ∀ δ (K K' : List D → Prop), (∀ d, K d → K' d) → u δ K → u δ K'
abbrev LM (tb : (List Slot → Exc → Prop) → TD) : Prop := ∀ δ (K K' : D → Prop) (E E' : Exc → Prop), (∀ d, K d → K' d) → (∀ x, E x → E' x) → tb (fun _ => E) δ K → tb (fun _ => E') δ K'
theorem ma_nil : MA daNil := fun _ _ _ hk h => hk _ h
theorem ma_cons {t : TD} {u : TDA} (ht : ME t) (hu : MA u) : MA (daCons t u) := fun δ K K' hk h => ht _ _ _ (fun d hd => hu _ _ _ (fun ds q => hk _ q) hd) h
theorem me_var {i : Nat} : ME (dVar i) := fun δ K K' hk h => by
  unfold dVar at h ⊢
  split at h
  · exact hk _ h
  · exact h.elim
theorem me_c {d : D} : ME (dC d) := fun δ K K' hk h => hk _ h
theorem me_op {k : D → D → (D → Prop) → Prop} {ta tb : TD} (km : Mono2 k) (ha : ME ta) (hb : ME tb) : ME (dOp k ta tb) := fun δ K K' hk h => ha _ _ _ (fun x hx => hb _ _ _ (fun y hy => km _ _ _ _ hk hy) hx) h
theorem me_tup {u : TDA} (h : MA u) : ME (dTup u) := fun δ K K' hk q => h _ _ _ (fun ds z => ⟨z.1, hk _ z.2⟩) q
theorem me_lst {u : TDA} (h : MA u) : ME (dLst u) := fun δ K K' hk q => h _ _ _ (fun ds z => ⟨z.1, hk _ z.2⟩) q
theorem me_b {k : List D → (D → Prop) → Prop} {u : TDA} (km : MonoL k) (h : MA u) : ME (dB k u) := fun δ K K' hk q => h _ _ _ (fun ds z => km _ _ _ hk z) q
theorem lm_call {S : Spec} {u : TDA} (sm : SMono S) (h : MA u) : LM fun EX => dCall S EX u := fun δ K K' E E' hk he q => h _ _ _ (fun ds z => sm _ _ _ _ _ hk he z) q
theorem lm_callV {i : Nat} {Γ : List (Str × Spec)} {u : TDA} (sm : ∀ q ∈ Γ, SMono q.2) (h : MA u) : LM fun EX => dCallV i Γ EX u := fun δ K K' E E' hk he q => by
  unfold dCallV at q ⊢
  dsimp only at q ⊢
  split at q
  · obtain ⟨S, hs, q⟩ := q
    exact ⟨S, hs, h _ _ _ (fun ds z => sm _ hs _ _ _ _ _ hk he z) q⟩
  · exact q
theorem lm_e {t : TD} (h : ME t) : LM fun _ => t := fun δ K K' E E' hk he q => h _ _ _ hk q
/-! ### what an error's kinds are told as -/
def fld (x : Exc) (f : Str) : D → Prop := fun d => x.fs.lookup f = some d
/-- the text that repr gives of d, if it does -/
def shownOf (d : D) : Option Str := (reprD d).bind fun p => if p.showable = true ∧ p.depth ≤ 20 ∧ p.shown.length ≤ sizeLine then some p.shown else none
theorem shown_repr {d : D} {s : Str} {K : D → Prop} (h : shownOf d = some s) (q : K (.str s)) : kRepr [d] K := by
  unfold shownOf at h
  rw [Option.bind_eq_some_iff] at h
  obtain ⟨p, e1, h⟩ := h
  split at h
  · rename_i c
    cases h
    exact ⟨d, p, rfl, e1, c, q⟩
  · cases h
def two (k : Str) (x : Exc) (f g : Str) : Option D := (x.fs.lookup f).bind fun a => (x.fs.lookup g).bind fun b => (shownOf b).map fun s => .tup [.str k, a, .str s]
def one (k : Str) (x : Exc) (f : Str) : Option D := (x.fs.lookup f).map fun a => .tup [.str k, a]
def oneR (k : Str) (x : Exc) (f : Str) : Option D := (x.fs.lookup f).bind fun a => (shownOf a).map fun s => .tup [.str k, .str s]
def pairK (k : Str) (x : Exc) (f g : Str) : Option D := (x.fs.lookup f).bind fun a => (x.fs.lookup g).map fun b => .tup [.str k, a, b]
/-- what the law tells of an error -/
def kindsD (x : Exc) : Option D :=
  if x.cls = "BadNumber" then two "number" x "what" "number"
  else if x.cls = "BadRow" then two "row" x "what" "row"
  else if x.cls = "BadTable" then one "table" x "what"
  else if x.cls = "BadBook" then one "book" x "what"
  else if x.cls = "BadName" then oneR "badname" x "name"
  else if x.cls = "BadText" then pairK "text" x "line" "word"
  else if x.cls = "NoPlace" then two "place" x "what" "index"
  else if x.cls = "NoName" then oneR "noname" x "name"
  else if x.cls = "TakenName" then oneR "taken" x "name"
  else if x.cls = "Unlike" then one "unlike" x "what"
  else if x.cls = "NotThere" then one "notthere" x "paper"
  else if x.cls = "TooMany" then (x.fs.lookup ("what" : Str)).bind fun a => (x.fs.lookup ("many" : Str)).bind fun b => (x.fs.lookup ("limit" : Str)).map fun c => .tup [.str "many", a, b, c]
  else if x.cls = "NotKept" then pairK "kept" x "promise" "witness"
  else if x.cls = "NothingToUndo" then some (.tup [.str "undo"])
  else if x.cls = "NothingToRedo" then some (.tup [.str "redo"])
  else none
def RKf (K : D → Prop) (x : Exc) : Prop := x.cls ∈ XN ∧ ∃ d, kindsD x = some d ∧ K d
theorem rkf_mono : ∀ (K K' : D → Prop), (∀ d, K d → K' d) → ∀ x, RKf K x → RKf K' x := fun K K' h x ⟨h1, d, e, q⟩ => ⟨h1, d, e, h _ q⟩
end DL

set_option Elab.async false
set_option linter.all false
set_option maxRecDepth 100000
set_option maxHeartbeats 8000000
/-! DL22: the law's call, the guards told. -/
namespace DL
open PySem PySem.Spec PyProof.Rows L2 LamX
section
variable {P : Program} {w : World} {K : PySem.W.Frag} {mg mb : Str → Option Value} {k : Nat} {fa a : Addr} {cs : List (Addr × Addr)} {fd : FuncData} {x : Str} {sp : Sp} {s₁ : Shared} {vs : List Value} {ns : List Int}
/-- what is tracked as the law begins: the tables, the script unless it is written -/
def h0 (K : PySem.W.Frag) (tb : List Addr) (a : Addr) (u : HO) : Hp := fun b => if b ∈ tb then some (.tbl #[]) else if b = a ∧ K.lookup a = none then some u else none
theorem h0_tb {tb : List Addr} {u : HO} {b : Addr} (h : b ∈ tb) : h0 K tb a u b = some (.tbl #[]) := if_pos h
theorem h0_some {tb : List Addr} {u v : HO} {b : Addr} (h : h0 K tb a u b = some v) : (b ∈ tb ∧ v = .tbl #[]) ∨ (b = a ∧ K.lookup a = none ∧ v = u) := by
  unfold h0 at h
  by_cases h1 : b ∈ tb
  · rw [if_pos h1] at h
    cases h
    exact .inl ⟨h1, rfl⟩
  · rw [if_neg h1] at h
    by_cases h2 : b = a ∧ K.lookup a = none
    · rw [if_pos h2] at h
      cases h
      exact .inr ⟨h2.1, h2.2, rfl⟩
    · rw [if_neg h2] at h
      cases h
theorem law_callG (KX : K.In s₁.heap) (hns : s₁.heap.Ns mainGlobals mg) (hb : s₁.heap.Ns builtinsNs mb) (hbb : ∀ x : Str, x ≠ "__name__" → mb x = bootBuiltins x) (hlim : s₁.heap.NoLimit) (hg : s₁.gens = #[])
    (hT : ∀ p ∈ cs, s₁.heap.get? p.2 = some { cls := .none, data := .fields #[] }) (nT : ∀ p ∈ cs, K.lookup p.2 = none) (C : ∀ p ∈ cs, PySem.W.CodeHd s₁.heap p.1 p.2)
    (hbm : ∃ (bm : Addr) (ob : Obj), mg "__builtins__" = some (.ref bm) ∧ bm ≠ builtinsNs ∧ s₁.heap.get? bm = some ob ∧ ob.cls = .type "module" ∧ ob.dict = some builtinsNs ∧ ob.data = .plain)
    (ha : s₁.heap.get? a = some { cls := .type "list", data := .seq vs.toArray }) (hi : IntsAre vs ns) (hl : ns.length ≤ sizeLine) (hr : GRoom k callerA)
    (F : ∀ base : Heap, K.In base → base.Ns mainGlobals mg → (∀ p ∈ cs, TabB base mg p.1 p.2) → FnG P w K mg base k fa fd [x] sp) (hbind : ∀ (s : Shared) (u : Value), BindsTo s fd ⟨[u], []⟩ [(x, u)])
    (hsp : ∀ H : Hp, (∀ p ∈ cs, H p.2 = some (.tbl #[])) → SqL K H a (ns.map V.int) → sp [.ref a] H (fun v _ => v = .bl true) fun _ _ _ => False) :
    codeAny (model P w) callerA (.call (.ref fa) ⟨[.ref a], []⟩) (fun r s' => r = .ok (.ret (.bool true)) ∧ OldK s₁.heap s'.heap ∧ s'.os = s₁.os ∧ AllBare s'.gens) s₁ := by
  have rv := vals_ints hi
  let tb := cs.map (·.2)
  let u : HO := .frz { cls := .type "list", data := .seq vs.toArray } (.lst (ns.map V.int))
  let H := h0 K tb a u
  have tab : ∀ b ∈ tb, s₁.heap.get? b = some { cls := .none, data := .fields #[] } := fun b hb => by
    obtain ⟨p, hp, e⟩ := List.mem_map.mp hb
    rw [← e]; exact hT p hp
  have mem : ∀ p ∈ cs, p.2 ∈ tb := fun p hp => List.mem_map.mpr ⟨p, hp, rfl⟩
  have aT : a ∉ tb := fun z => by
    have q := tab a z
    rw [ha] at q
    have z' : Data.seq vs.toArray _ = Data.fields #[] := congrArg Obj.data (Option.some.inj q)
    cases z'
  have hok : HOk P w H s₁.heap := fun b v e => by
    rcases h0_some e with ⟨h1, h2⟩ | ⟨h1, _, h2⟩
    · subst h2; exact tab b h1
    · subst h2; subst h1
      exact ⟨ha, by rw [List.length_map]; exact hl, vs, _, rv, ha⟩
  have hS : SqL K H a (ns.map V.int) := by
    cases q : K.lookup a with
    | none =>
      refine .inl (.inr ⟨{ cls := .type "list", data := .seq vs.toArray }, ?_⟩)
      show h0 K tb a u a = some u
      unfold h0
      rw [if_neg aT, if_pos ⟨rfl, q⟩]
    | some o =>
      have e := KX a o q
      rw [ha] at e
      cases e
      exact .inr ⟨_, vs.toArray, _, q, rfl, rfl, rfl, by rw [List.size_toArray, hi.length]; exact hl, by simpa using rv⟩
  -- what is neither a list nor an empty table is not tracked
  have free : ∀ {b : Addr} {o : Obj}, s₁.heap.get? b = some o → (∀ vs n, o.data ≠ .seq vs n) → o.data ≠ .fields #[] → H b = none := fun {b o} e h1 h2 => by
    cases q : H b with
    | none => rfl
    | some v =>
      rcases h0_some q with ⟨h3, _⟩ | ⟨h3, _, _⟩
      · rw [tab b h3] at e
        cases e
        exact (h2 rfl).elim
      · rw [h3, ha] at e
        cases e
        exact (h1 _ _ rfl).elim
  have hid : ∀ {b : Addr} {o : Obj}, s₁.heap.get? b = some o → H b = none → (hidT s₁.heap H).get? b = some o := fun e n => hidT_get e n
  have nsK : ∀ {b : Addr} {m : Str → Option Value}, s₁.heap.Ns b m → (hidT s₁.heap H).Ns b m := fun {b m} ⟨o, es, ep, e, d, r⟩ => by
    refine ⟨o, es, ep, hid e (free e (fun vs n z => ?_) fun z => ?_), d, r⟩ <;> (rw [d] at z; cases z)
  have hKb : K.In (hidT s₁.heap H) := fun b o e => hid (KX b o e) (by
    cases q : H b with
    | none => rfl
    | some v =>
      rcases h0_some q with ⟨h3, _⟩ | ⟨h3, h4, _⟩
      · obtain ⟨p, hp, ep⟩ := List.mem_map.mp h3
        rw [← ep, nT p hp] at e
        cases e
      · rw [h3, h4] at e
        cases e)
  have hM : L2.Mod K mg (hidT s₁.heap H) := ⟨hKb, nsK hns, ⟨mb, nsK hb, hbb⟩, let ⟨mc, h1, h2⟩ := hlim; ⟨mc, nsK h1, h2⟩⟩
  have TB : ∀ p ∈ cs, TabB (hidT s₁.heap H) mg p.1 p.2 := fun p hp => by
    obtain ⟨om, esm, epm, em, hdm, _⟩ := id hns
    have hTp := hT p hp
    refine ⟨?_, ?_, fun z => ?_⟩
    · obtain ⟨o, us, file, tf, flags, tg, inF, text, tt, e1, r1, r2, r3, rest⟩ := C p hp
      refine ⟨o, us, file, tf, flags, tg, inF, text, tt, hid e1 (free e1 (fun vs n z => ?_) fun z => ?_), r1, r2, r3, rest⟩
      · rw [r2] at z; cases z
      · rw [r2] at z; cases z; simp at r3
    · obtain ⟨bm, ob, b1, b2, b3, b4, b5, b6⟩ := hbm
      refine ⟨bm, ob, b1, b2, fun q => ?_, fun q => ?_, hid b3 (free b3 (fun vs n z => ?_) fun z => ?_), b4, b5, b6⟩
      · rw [q, em] at b3
        cases b3
        rw [hdm] at b6
        cases b6
      · rw [q, hTp] at b3
        cases b3
        cases b6
      · rw [b6] at z; cases z
      · rw [b6] at z; cases z
    · rw [z, hTp] at em
      cases em
      cases hdm
  have e0 : Env0 P w K mg (hidT s₁.heap H) callerA [] s₁ H := ⟨rfl, hM, fun b o e => of_hidT e, Nat.le_of_eq (hidT_size _ _), trivial, fun b hb => absurd (show b ∈ ([] : List Addr) from hb) (by simp), hok, .of_eq hg⟩
  refine codeAny_mono ((F _ hKb (nsK hns) TB).run callerA [] s₁ H ⟨[.ref a], []⟩ [.ref a] [.ref a] _ _ hr e0 (hbind s₁ (.ref a)) (.cons rfl .nil) (hsp H (fun p hp => h0_tb (mem p hp)) hS)) fun r s' h => ?_
  cases r with
  | error e =>
    obtain ⟨_, _, _, _, _, _, _, _, _, _, _, _, hE⟩ := h
    exact hE.elim
  | ok fl =>
    cases fl with
    | next => exact False.elim h
    | brk => exact False.elim h
    | cont => exact False.elim h
    | ret y =>
      obtain ⟨v, H', os, bare, un, hok', r', q⟩ := h
      have q' : v = .bl true := q
      subst q'
      obtain rfl : y = Value.bool true := r'
      have old : ∀ b o, b ∉ tb → s₁.heap.get? b = some o → s'.heap.get? b = some o := fun b o nb e => by
        cases q : H b with
        | none => exact un.keep b o e q (by intro z; exact absurd (show b ∈ ([] : List Addr) from z) (by simp)) (by simp)
        | some v =>
          rcases h0_some q with ⟨h3, _⟩ | ⟨_, _, h4⟩
          · exact (nb h3).elim
          · subst h4
            have z2 := un.frzs b _ _ q
            obtain ⟨e1, _⟩ := hok b _ q
            obtain ⟨e2, _⟩ := hok' b _ z2
            rw [e] at e1; cases e1
            exact e2
      have grown : ∀ p ∈ cs, ∃ more : Array Value, s'.heap.get? p.2 = some { cls := .none, data := .fields more } := fun p hp => by
        obtain ⟨more, z⟩ := un.tbls p.2 #[] (h0_tb (mem p hp))
        exact ⟨_, hok' p.2 _ z⟩
      refine ⟨rfl, ⟨fun b o e => ?_, fun b o e => ?_⟩, os, bare⟩
      · by_cases hb : b ∈ tb
        · obtain ⟨p, hp, ep⟩ := List.mem_map.mp hb
          obtain ⟨more, hm⟩ := grown p hp
          rw [← ep] at e ⊢
          rw [hT p hp] at e
          cases e
          exact .inr (.inl ⟨((C p hp).tab (hT p hp)).isCodeTable, rfl, #[], more, rfl, by rw [Array.empty_append]; exact hm⟩)
        · exact .inl (old b o hb e)
      · by_cases hb : b ∈ tb
        · obtain ⟨p, hp, ep⟩ := List.mem_map.mp hb
          obtain ⟨more, hm⟩ := grown p hp
          rw [← ep]
          exact ⟨_, hm⟩
        · exact ⟨o, old b o hb e⟩
/-- what is known of the law's promise at the head's heap h -/
def LawAtG (l : PySem.W.OpenLaw) (w : World) (K : PySem.W.Frag) (k n : Nat) (x : Str) (mg : Str → Option Value) (fa : Addr) (h : Heap) : Prop :=
  ∃ (fd : FuncData) (cs : List (Addr × Addr)) (sp : Sp), (∀ p ∈ cs, h.get? p.2 = some { cls := .none, data := .fields #[] }) ∧ (∀ p ∈ cs, K.lookup p.2 = none) ∧ (∀ p ∈ cs, PySem.W.CodeHd h p.1 p.2) ∧ (∀ (s : Shared) (u : Value), BindsTo s fd ⟨[u], []⟩ [(x, u)]) ∧
    (∀ (H : Hp) (a : Addr) (ns : List Int), ns.length ≤ n → (∀ z ∈ ns, Builtin.Int.intBits z ≤ 1048576) → (∀ p ∈ cs, H p.2 = some (.tbl #[])) → SqL K H a (ns.map V.int) → sp [.ref a] H (fun v _ => v = .bl true) fun _ _ _ => False) ∧
    ∀ base : Heap, K.In base → base.Ns mainGlobals mg → (∀ p ∈ cs, TabB base mg p.1 p.2) → FnG l.prog w K mg base k fa fd [x] sp
theorem walk_G {l : PySem.W.OpenLaw} {n k : Nat} {q : Program} {loose : List Str} {XP : (Str → Option Value) → Heap → Prop} {YP : World → Heap → Prop} {d : DefRec} {x : Str}
    (hn : l.most = some n) (hn2 : n ≤ sizeLine) (hdf : d.params.defaults = []) (hr : GRoom k callerA)
    (F : ∀ (w : World) (mg : Str → Option Value) (fa : Addr) (h : Heap), YP w h → h.Ns mainGlobals mg → mg d.name = some (.ref fa) → ∃ K : PySem.W.Frag, K.In h ∧ LawAtG l w K k n x mg fa h) :
    PySem.W.WalkO q loose XP YP l.row.toRowW d [] (fun f vs => PySem.call f vs) := by
  refine Att.attach_callB hn hdf fun w s₀ s₁ mg mb fa o pm cd doc a vs ns G Y ho hd hcd hmg hobj hints hlen hbits hg => ?_
  obtain ⟨K, KX, fd, cs, sp, hT, nT, C, hb, hsp, hF⟩ := F w mg fa _ Y G.T.g hmg
  exact law_callG KX G.T.g G.T.b G.T.builtins G.T.nolimit hg hT nT C G.T.bmain hobj hints (Nat.le_trans hlen hn2) hr hF hb (fun H hH hS => hsp H a ns hlen hbits hH hS)
end
end DL

set_option Elab.async false
set_option linter.all false
set_option maxRecDepth 100000
set_option maxHeartbeats 8000000
/-! DL23: the drawing source made; the law's body. -/
namespace DL
open PySem PySem.Spec PyProof.Rows L2 LamX
def spPen (K : PySem.W.Frag) : Sp := fun vs H Q _ => ∃ (a : Addr) (ns : List Int), vs = [.ref a] ∧ SqL K H a (ns.map V.int) ∧
  ∀ (d l : Addr) (fo : Int) (H' : Hp), H' d = some (.dK (penKvs l 0 0 0 fo)) → H' l = some (.lst (ns.map V.int)) → (∀ b o, H b = some o → H' b = some o) → Q (.ref d) H'
abbrev rInt1 : List V → Hp → VK → Prop := fun xs H Q => (∃ i, xs = [.int i] ∧ Q (.int i) H) ∨ ∃ k, xs = [.bl k] ∧ Q (.int (if k then 1 else 0)) H
abbrev rListOf (K : PySem.W.Frag) : List V → Hp → VK → Prop := fun xs H Q => ∃ p ys, xs = [.ref p] ∧ (SqL K H p ys ∨ SqT K H p ys) ∧ ∀ l, H l = none → Q (.ref l) (upd H l (.lst ys))
def penTurn : TS := tSeq (tAsg (tOp (rI (fun _ j => 0 < j) fun i j => .int (i % j)) (tCB rInt1 (tCons (tOp (rI0 fun i j => .int (i + j)) (tOp (rI CMulA fun i j => .int (i * j)) (tVar 1) (tC (.int 47))) (tVar 2)) tNil)) (tC (.int 1000000007))) (gName 1)) tNext
def penDisp (K : PySem.W.Frag) : TE := tDisp [(tC (.str "cells"), tCB (rListOf K) (tCons (tVar 0) tNil)), (tC (.str "at"), tC (.int 0)), (tC (.str "digits"), tC (.int 0)), (tC (.str "count"), tC (.int 0)), (tC (.str "fold"), tVar 1)]
def penT (K : PySem.W.Frag) : TS := tSeq (tAsg (tC (.int 0)) (gName 1)) (tSeq (tFor (iList K (tVar 0)) (gName 2) penTurn) (tSeq (tRet (penDisp K)) tNext))
theorem pen_merge {l : Addr} {fo : Int} : mergeK [] (penKvs l 0 0 0 fo) = penKvs l 0 0 0 fo := by
  have n : ∀ (kvs : List (Key × V)) (k : Key) (v : V), valV kvs k = none → putK kvs k v = kvs ++ [(k, v)] := fun kvs k v h => putK_new v h
  show putK (putK (putK (putK (putK ([] : List (Key × V)) (Sum.inr ("cells" : Str)) (V.ref l)) (Sum.inr ("at" : Str)) (V.int 0)) (Sum.inr ("digits" : Str)) (V.int 0)) (Sum.inr ("count" : Str)) (V.int 0)) (Sum.inr ("fold" : Str)) (V.int fo) = _
  have s0 : putK ([] : List (Key × V)) (Sum.inr ("cells" : Str)) (V.ref l) = [(Sum.inr ("cells" : Str), V.ref l)] := n _ _ _ rfl
  have s1 : putK ([(Sum.inr ("cells" : Str), V.ref l)] : List (Key × V)) (Sum.inr ("at" : Str)) (V.int 0) = [(Sum.inr ("cells" : Str), V.ref l), (Sum.inr ("at" : Str), V.int 0)] := n _ _ _ (by rw [valV_neg k12]; rfl)
  have s2 : putK ([(Sum.inr ("cells" : Str), V.ref l), (Sum.inr ("at" : Str), V.int 0)] : List (Key × V)) (Sum.inr ("digits" : Str)) (V.int 0) = [(Sum.inr ("cells" : Str), V.ref l), (Sum.inr ("at" : Str), V.int 0), (Sum.inr ("digits" : Str), V.int 0)] := n _ _ _ (by rw [valV_neg k13, valV_neg k23]; rfl)
  have s3 : putK ([(Sum.inr ("cells" : Str), V.ref l), (Sum.inr ("at" : Str), V.int 0), (Sum.inr ("digits" : Str), V.int 0)] : List (Key × V)) (Sum.inr ("count" : Str)) (V.int 0) = [(Sum.inr ("cells" : Str), V.ref l), (Sum.inr ("at" : Str), V.int 0), (Sum.inr ("digits" : Str), V.int 0), (Sum.inr ("count" : Str), V.int 0)] := n _ _ _ (by rw [valV_neg k14, valV_neg k24, valV_neg k34]; rfl)
  have s4 : putK ([(Sum.inr ("cells" : Str), V.ref l), (Sum.inr ("at" : Str), V.int 0), (Sum.inr ("digits" : Str), V.int 0), (Sum.inr ("count" : Str), V.int 0)] : List (Key × V)) (Sum.inr ("fold" : Str)) (V.int fo) = [(Sum.inr ("cells" : Str), V.ref l), (Sum.inr ("at" : Str), V.int 0), (Sum.inr ("digits" : Str), V.int 0), (Sum.inr ("count" : Str), V.int 0), (Sum.inr ("fold" : Str), V.int fo)] := n _ _ _ (by rw [valV_neg k15, valV_neg k25, valV_neg k35, valV_neg k45]; rfl)
  rw [s0, s1, s2, s3, s4]
theorem pen_read {K : PySem.W.Frag} {vs : List V} {H : Hp} {Q : VK} {E : XK} (h : spPen K vs H Q E) : penT K { nx := fun _ H' => Q .non H', rt := Q } (L2.start ["script", "fold", "cell"] vs) H := by
  obtain ⟨a, ns, rfl, hS, hQ⟩ := h
  show tFor (iList K (tVar 0)) (gName 2) penTurn _ [some (.ref a), some (.int 0), none] H
  refine ⟨.ref a, rfl, a, rfl, ⟨_, hS⟩, ?_⟩
  refine for_list (K := K) (a := a) (xs := ns.map V.int) (fun i σ H' => H' = H ∧ ∃ (f : Int) (o : Option V), σ = [some (.ref a), some (.int f), o]) ⟨rfl, 0, none, rfl⟩ (fun i σ H' _ ⟨e, _⟩ => by rw [e]; exact hS) (fun i x σ H' hx ⟨e, f, o, es⟩ => ?_) (fun σ H' ⟨e, f, o, es⟩ => ?_)
  · subst e; subst es
    rw [List.getElem?_map] at hx
    rw [Option.map_eq_some_iff] at hx
    obtain ⟨n, _, rfl⟩ := hx
    show penTurn _ [some (.ref a), some (.int f), some (.int n)] H'
    refine ⟨.int f, rfl, f, 47, rfl, rfl, mul_r (by decide), .int n, rfl, f * 47, n, rfl, rfl, .inl ⟨_, rfl, _, _, rfl, rfl, (by decide : (0 : Int) < 1000000007), ?_⟩⟩
    exact ⟨rfl, _, _, rfl⟩
  · subst e; subst es
    show penDisp K _ _ Q
    intro p hp
    have hS1 : SqL K (upd H' p (.dK [])) a (ns.map V.int) := by
      rcases hS with (hS | ⟨ob, hS⟩) | hS
      · exact .inl (.inl (by rw [upd_ne (ne_of_none hS hp)]; exact hS))
      · exact .inl (.inr ⟨ob, by rw [upd_ne (ne_of_none hS hp)]; exact hS⟩)
      · exact .inr hS
    refine ⟨.ref a, rfl, a, _, rfl, .inl hS1, fun l hl => ?_⟩
    have ne : p ≠ l := by
      intro z
      rw [← z, upd_same] at hl
      cases hl
    refine ⟨.int f, rfl, by rw [upd_ne ne, upd_same], penKvs l 0 0 0 f, rfl, by show 5 ≤ 15; decide, ?_⟩
    rw [pen_merge]
    have hl0 : H' l = none := by rw [upd_ne (Ne.symm ne)] at hl; exact hl
    refine hQ p l f _ upd_same (by rw [upd_ne (Ne.symm ne), upd_same]) fun b o e => ?_
    have n1 := ne_of_none e hp
    have n2 := ne_of_none e hl0
    rw [upd_ne n1, upd_ne n2, upd_ne n1]
    exact e
/-- the def that makes the source -/
structure DefPen (P : Program) (w : World) (K : PySem.W.Frag) (mg : Str → Option Value) (base : Heap) (k : Nat) : Prop where
  ex : ∃ f fd ps, mg "_law_pen" = some (.ref f) ∧ PySem.W.keepIn K (.ref f) = true ∧ Binds K fd ps [] ∧ FnG P w K mg base k f fd ps (spPen K)
theorem pen_of {P : Program} {w : World} {K : PySem.W.Frag} {mg : Str → Option Value} {base : Heap} {k : Nat} {st : Stmt} {f : Addr} {fd : FuncData} (F : Fun K "_law_pen" "_law_pen" st f fd) (hm : mg "_law_pen" = some (.ref f)) (Sc : FnScope ["script", "fold", "cell"] ["script"] (defScope st)) (bd : Binds K fd ["script"] [])
    (body : ∀ (cdv : Value) (A : Around) (outer : List Env) (s : Shared) (H : Hp) (E : XK), (cxD P w K mg base ["script", "fold", "cell"] "_law_pen" st f cdv A outer s H E).N.Nodup → PassesOwn (model P w) (cxD P w K mg base ["script", "fold", "cell"] "_law_pen" st f cdv A outer s H E).A (cxD P w K mg base ["script", "fold", "cell"] "_law_pen" st f cdv A outer s H E).env (cxD P w K mg base ["script", "fold", "cell"] "_law_pen" st f cdv A outer s H E).xe →
      PSs (cxD P w K mg base ["script", "fold", "cell"] "_law_pen" st f cdv A outer s H E) (defBody st) (penT K)) : DefPen P w K mg base (k + 1) := by
  refine ⟨⟨f, fd, _, hm, F.kp, bd, fnG_of F Sc (fun vs H Q E ⟨a, ns, e, _⟩ => by rw [e]; rfl) fun cdv A outer s H vs Q E _ hr hsp => ?_⟩⟩
  exact ⟨_, body cdv A outer s H E Sc.nd (passes_of rfl), pen_read hsp⟩
/-! ### the law -/
def spLaw (K : PySem.W.Frag) (T : List (Addr × Str)) : Sp := fun vs H Q _ => ∃ (a : Addr) (ns : List Int), vs = [.ref a] ∧ SqL K H a (ns.map V.int) ∧ Tabs T H ∧ ∀ H', Q (.bl true) H'
theorem law_mk {P : Program} {w : World} {K : PySem.W.Frag} {mg : Str → Option Value} {base : Heap} {T : List (Addr × Str)} {k : Nat} {st : Stmt} {f : Addr} {fd : FuncData} {N : List Str} {rest : List Stmt} {p1 p2 p3 p4 p5 : Pos} {t : TDS}
    (F : Fun K "law" "law" st f fd) (Sc : FnScope ("script" :: "pen" :: N) ["script"] (defScope st)) (hb : defBody st = .Assign [.Name "pen" p1] (.Call (.Name "_law_pen" p2) [.Name "script" p3] [] p4) p5 :: rest) (pd : DefPen P w K mg base k)
    (hl : (defScope st).names.lookup ("pen" : Str) = some .local) (hl2 : (defScope st).names.lookup ("script" : Str) = some .local) (hgl : (defScope st).names.lookup ("_law_pen" : Str) = some .globalImplicit)
    (body : ∀ (cdv : Value) (A : Around) (outer : List Env) (s : Shared) (H : Hp) (E : XK) (g : Gh), fd.code = cdv → g.K = K → g.mg = mg → g.T = T → Cs (cxD P w K mg base ("script" :: "pen" :: N) "law" st f cdv A outer s H E) g (fun _ _ => False) k → DSs (cxD P w K mg base ("script" :: "pen" :: N) "law" st f cdv A outer s H E) g rest t)
    (read : t { nx := fun _ => False, rt := fun d => d = .bl true } (.un :: .val .pen :: List.replicate N.length .un)) : FnG P w K mg base (k + 1) f fd ["script"] (spLaw K T) := by
  obtain ⟨fP, fdP, psP, hmP, hkP, bP, FP⟩ := pd.ex
  refine fnG_of F Sc (fun vs H Q E ⟨a, ns, e, _⟩ => by rw [e]; rfl) fun cdv A outer s H vs Q E hcd hr hsp => ?_
  have cs : ∀ g : Gh, g.K = K → g.mg = mg → Cs (cxD P w K mg base ("script" :: "pen" :: N) "law" st f cdv A outer s H E) g (fun _ _ => False) k := fun g e1 e2 =>
    ⟨⟨⟨e1, e2, hr.r.units, hr.gd, Sc.nd⟩, hr, rfl, L2N.Takes.imp (L2N.takes_of rfl rfl rfl rfl) (fun cls d σ H' ⟨A', δ', x', ok', rx, hx⟩ => hx.elim)⟩, passes_of rfl, rfl, rfl, rfl⟩
  rw [hb]
  refine ⟨_, pss_cons (ps_set (X := cxD P w K mg base ("script" :: "pen" :: N) "law" st f cdv A outer s H E) (i := 1) Sc.nd rfl (.inl hl) (pe_callG (E := fun _ _ _ _ => False) FP hr hgl hmP hkP bP (fun σ pins H s e s' I c => ?_) (pa_cons (pe_var (i := 0) rfl (.inl hl2)) pa_nil (by rfl)) (by decide) (by rfl) (by rfl)) (by rfl) (.inr hl))
    (PSs.ex (P := fun g : Gh => g.K = K ∧ g.mg = mg ∧ g.T = T) (t := fun g => LiftS g t) fun g ⟨e1, e2, e3⟩ => (body cdv A outer s H E g hcd e1 e2 e3 (cs g e1 e2)).pss), ?_⟩
  · obtain ⟨_, _, _, _, _, _, _, _, _, _, _, _, hE⟩ := c
    exact hE.elim
  · obtain ⟨a, ns, rfl, hS, hT, hQ⟩ := hsp
    refine ⟨.ref a, rfl, a, ns, rfl, hS, fun d l fo H' hd hl hk => ?_⟩
    let c : Cn := { K := K, mg := mg, pen := some (d, l), T := T }
    let g : Gh := { toCn := c, F := c.W, H0 := H', V := c.W }
    have jd : JD c H' := ⟨fun a' l' e => by cases e; exact ⟨0, 0, 0, fo, Int.le_refl _, Int.le_refl _, hd⟩, hT.ext hk⟩
    have j : J c H' := ⟨jd, fun a' l' e => by cases e; exact ⟨ns, .of hl⟩⟩
    have nd : body cdv A outer s H E g hcd rfl rfl rfl (cs g rfl rfl) = body cdv A outer s H E g hcd rfl rfl rfl (cs g rfl rfl) := rfl
    refine ⟨g, ⟨rfl, rfl, rfl⟩, [], _, ⟨j.cellsAt, jd, fun _ h => h, Ext.refl _ _, fun _ h => h, fun b ⟨l', hb⟩ => ?_, (fun b hb => by cases hb), (fun b hb => by cases hb), [], List.nodup_nil, (fun b hb => by cases hb), ?_⟩, (body cdv A outer s H E g hcd rfl rfl rfl (cs g rfl rfl)).mono _ _ _ ⟨fun δ h => (show False from h).elim, fun d' h v H2 j2 e2 r2 => ?_, fun δ h => (show False from h).elim, fun δ h => (show False from h).elim⟩ read⟩
    · cases hb
      exact ⟨_, hd, fun ps z => nomatch z⟩
    · show Slots _ _ _ [] _ (some (.ref a) :: some (.ref d) :: List.replicate N.length none)
      exact .un (.val (.pen rfl) (slots_un N.length))
    · subst h
      cases r2
      exact hQ H2
end DL

set_option Elab.async false
set_option linter.all false
set_option maxRecDepth 100000
set_option maxHeartbeats 8000000
/-! DL24: an error's kinds told: the readings of _law_kinds, _law_more_kinds, _law_fault. -/
namespace DL
open PySem PySem.Spec PyProof.Rows L2 LamX
section
variable {X : Cx}
theorem op_eqI (hu : X.A.units + 64 < cLine) : OpR X (compareOp .Eq) (rI0 fun i j => .bl (decide (i = j))) := fun pins s σ H x y v u Q I rx ry ⟨i, j, e1, e2, q⟩ => by
  subst e1; subst e2
  refine op_eqD hu pins s σ H _ _ v u Q I rx ry ⟨.int i, .int j, .int i, .int j, by rfl, by rfl, ?_⟩
  have e : PyData.eqv (.int i) (.int j) = decide (i = j) := by
    show (i == j) = decide (i = j)
    exact Bool.beq_eq_decide_eq ..
  rw [e]; exact q
end
/-! ### what they read as -/
def kTwo (k f g : Str) (a : Addr) (x : Exc) : TD := dTup (daCons (dC (.str k)) (daCons (dXf (dVar 0) a x f) (daCons (dB kRepr (daCons (dXf (dVar 0) a x g) daNil)) daNil)))
def kOne (k f : Str) (a : Addr) (x : Exc) : TD := dTup (daCons (dC (.str k)) (daCons (dXf (dVar 0) a x f) daNil))
def kOneR (k f : Str) (a : Addr) (x : Exc) : TD := dTup (daCons (dC (.str k)) (daCons (dB kRepr (daCons (dXf (dVar 0) a x f) daNil)) daNil))
def kPair (k f g : Str) (a : Addr) (x : Exc) : TD := dTup (daCons (dC (.str k)) (daCons (dXf (dVar 0) a x f) (daCons (dXf (dVar 0) a x g) daNil)))
def kIf (c : Str) (t : TD) (a : Addr) (x : Exc) : TDS := dIfS (dTru (dIsX (dVar 0) a (isaN x.cls c))) (dSeq (dApp 1 t) dNext) dNext
def tMore (x : Exc) (a : Addr) : TDS := dSeq (dSet 1 (dNewL daNil)) (dSeq (kIf "NoName" (kOneR "noname" "name" a x) a x) (dSeq (kIf "TakenName" (kOneR "taken" "name" a x) a x) (dSeq (kIf "Unlike" (kOne "unlike" "what" a x) a x) (dSeq (kIf "NotThere" (kOne "notthere" "paper" a x) a x)
  (dSeq (kIf "TooMany" (dTup (daCons (dC (.str "many")) (daCons (dXf (dVar 0) a x "what") (daCons (dXf (dVar 0) a x "many") (daCons (dXf (dVar 0) a x "limit") daNil))))) a x) (dSeq (kIf "NotKept" (kPair "kept" "promise" "witness" a x) a x)
   (dSeq (kIf "NothingToUndo" (dTup (daCons (dC (.str "undo")) daNil)) a x) (dSeq (kIf "NothingToRedo" (dTup (daCons (dC (.str "redo")) daNil)) a x) (dRl 1 (dSeq (dRet (dVar 1)) dNext))))))))))
def lateN : List Str := ["NoName", "TakenName", "Unlike", "NotThere", "TooMany", "NotKept", "NothingToUndo", "NothingToRedo"]
def S_more : SpecX := fun x K => (x.cls ∈ lateN ∧ ∃ d, kindsD x = some d ∧ K (.lst [d])) ∨ (x.cls ∉ lateN ∧ x.cls ≠ "PowerError" ∧ K (.lst []))
def tKinds (x : Exc) (a : Addr) : TDS := dSeq (dSet 1 (dNewL daNil)) (dSeq (kIf "BadNumber" (kTwo "number" "what" "number" a x) a x) (dSeq (kIf "BadRow" (kTwo "row" "what" "row" a x) a x) (dSeq (kIf "BadTable" (kOne "table" "what" a x) a x) (dSeq (kIf "BadBook" (kOne "book" "what" a x) a x)
  (dSeq (kIf "BadName" (kOneR "badname" "name" a x) a x) (dSeq (kIf "BadText" (kPair "text" "line" "word" a x) a x) (dSeq (kIf "NoPlace" (kTwo "place" "what" "index" a x) a x)
   (dRl 1 (dSeq (dRet (dOp kAdd (dVar 1) (dCallX S_more x a (dVar 0)))) dNext)))))))))
def S_kinds : SpecX := fun x K => x.cls ∈ XN ∧ x.cls ≠ "PowerError" ∧ ∃ d, kindsD x = some d ∧ K (.lst [d])
theorem more_mono : ∀ x (K K' : D → Prop), (∀ d, K d → K' d) → S_more x K → S_more x K' := fun x K K' h q => q.imp (fun ⟨a, d, e, q⟩ => ⟨a, d, e, h _ q⟩) fun ⟨a, b, q⟩ => ⟨a, b, h _ q⟩
theorem kinds_mono : ∀ x (K K' : D → Prop), (∀ d, K d → K' d) → S_kinds x K → S_kinds x K' := fun x K K' h ⟨a, b, d, e, q⟩ => ⟨a, b, d, e, h _ q⟩
section
variable {x : Exc} {a : Addr} {c : Str} {t : TD} {u : TDS} {N : DEnds} {ds : List D} {K : D → Prop}
/-- a clause that is not this error's -/
theorem kx_no (h : isaN x.cls c = false) (q : u N [.val (.ptr a), .own ds]) : dSeq (kIf c t a x) u N [.val (.ptr a), .own ds] := by
  show dTru (dIsX (dVar 0) a (isaN x.cls c)) [.val (.ptr a), .own ds] _
  rw [h]
  exact ⟨rfl, false, rfl, q⟩
/-- the one that is -/
theorem kx_yes {d : D} (h : isaN x.cls c = true) (hl : ds.length < 100) (ht : ∀ K : D → Prop, K d → t [.val (.ptr a), .own ds] K) (q : u N [.val (.ptr a), .own (ds ++ [d])]) : dSeq (kIf c t a x) u N [.val (.ptr a), .own ds] := by
  show dTru (dIsX (dVar 0) a (isaN x.cls c)) [.val (.ptr a), .own ds] _
  rw [h]
  refine ⟨rfl, true, rfl, ?_⟩
  show t [.val (.ptr a), .own ds] _
  refine ht _ ⟨by rw [sizeLine_eq]; omega, q⟩
theorem k_two {k f g : Str} {d : D} (h : two k x f g = some d) (K : D → Prop) (q : K d) : kTwo k f g a x [.val (.ptr a), .own ds] K := by
  unfold two at h
  rw [Option.bind_eq_some_iff] at h
  obtain ⟨y, e1, h⟩ := h
  rw [Option.bind_eq_some_iff] at h
  obtain ⟨z, e2, h⟩ := h
  rw [Option.map_eq_some_iff] at h
  obtain ⟨s, e3, h⟩ := h
  subst h
  refine ⟨rfl, y, e1, rfl, z, e2, ?_⟩
  show kRepr [z] fun d => ([D.str k, y, d]).length ≤ sizeLine ∧ K (.tup [.str k, y, d])
  exact shown_repr e3 ⟨by rw [sizeLine_eq]; show 3 ≤ _; decide, q⟩
theorem k_one {k f : Str} {d : D} (h : one k x f = some d) (K : D → Prop) (q : K d) : kOne k f a x [.val (.ptr a), .own ds] K := by
  unfold one at h
  rw [Option.map_eq_some_iff] at h
  obtain ⟨y, e1, h⟩ := h
  subst h
  exact ⟨rfl, y, e1, by rw [sizeLine_eq]; show 2 ≤ _; decide, q⟩
theorem k_oneR {k f : Str} {d : D} (h : oneR k x f = some d) (K : D → Prop) (q : K d) : kOneR k f a x [.val (.ptr a), .own ds] K := by
  unfold oneR at h
  rw [Option.bind_eq_some_iff] at h
  obtain ⟨y, e1, h⟩ := h
  rw [Option.map_eq_some_iff] at h
  obtain ⟨s, e3, h⟩ := h
  subst h
  refine ⟨rfl, y, e1, ?_⟩
  show kRepr [y] fun d => ([D.str k, d]).length ≤ sizeLine ∧ K (.tup [.str k, d])
  exact shown_repr e3 ⟨by rw [sizeLine_eq]; show 2 ≤ _; decide, q⟩
theorem k_pair {k f g : Str} {d : D} (h : pairK k x f g = some d) (K : D → Prop) (q : K d) : kPair k f g a x [.val (.ptr a), .own ds] K := by
  unfold pairK at h
  rw [Option.bind_eq_some_iff] at h
  obtain ⟨y, e1, h⟩ := h
  rw [Option.map_eq_some_iff] at h
  obtain ⟨z, e2, h⟩ := h
  subst h
  exact ⟨rfl, y, e1, ⟨rfl, z, e2, by rw [sizeLine_eq]; show 3 ≤ _; decide, q⟩⟩
theorem k_many {d : D} (h : ((x.fs.lookup ("what" : Str)).bind fun a => (x.fs.lookup ("many" : Str)).bind fun b => (x.fs.lookup ("limit" : Str)).map fun c => D.tup [.str "many", a, b, c]) = some d) (K : D → Prop) (q : K d) :
    dTup (daCons (dC (.str "many")) (daCons (dXf (dVar 0) a x "what") (daCons (dXf (dVar 0) a x "many") (daCons (dXf (dVar 0) a x "limit") daNil)))) [.val (.ptr a), .own ds] K := by
  rw [Option.bind_eq_some_iff] at h
  obtain ⟨y, e1, h⟩ := h
  rw [Option.bind_eq_some_iff] at h
  obtain ⟨z, e2, h⟩ := h
  rw [Option.map_eq_some_iff] at h
  obtain ⟨s, e3, h⟩ := h
  subst h
  exact ⟨rfl, y, e1, ⟨rfl, z, e2, ⟨rfl, s, e3, by rw [sizeLine_eq]; show 4 ≤ _; decide, q⟩⟩⟩
theorem k_bare {k : Str} (K : D → Prop) (q : K (.tup [.str k])) : dTup (daCons (dC (.str k)) daNil) [.val (.ptr a), .own ds] K := ⟨by rw [sizeLine_eq]; show 1 ≤ _; decide, q⟩
/-- from a name's place -/
theorem cls_cases {P : Prop} (h : x.cls ∈ XN) (hP : x.cls ≠ "PowerError")
    (h1 : x.cls = "BadNumber" → P) (h2 : x.cls = "BadRow" → P) (h3 : x.cls = "BadTable" → P) (h4 : x.cls = "BadBook" → P) (h5 : x.cls = "BadName" → P) (h6 : x.cls = "BadText" → P) (h7 : x.cls = "NoPlace" → P) (hL : x.cls ∈ lateN → P) : P := by
  unfold XN at h
  simp only [List.mem_cons, List.not_mem_nil, or_false] at h
  rcases h with h | h | h | h | h | h | h | h | h
  · exact (hP h).elim
  · exact h1 h
  · exact h2 h
  · exact h3 h
  · exact h4 h
  · exact h5 h
  · exact h6 h
  · exact h7 h
  · refine hL ?_
    unfold lateN
    simp only [List.mem_cons, List.not_mem_nil, or_false]
    exact h
theorem kd_BadNumber (h : x.cls = "BadNumber") : kindsD x = two "number" x "what" "number" := by
  unfold kindsD
  rw [if_pos h]
theorem kd_BadRow (h : x.cls = "BadRow") : kindsD x = two "row" x "what" "row" := by
  unfold kindsD
  rw [if_neg (by rw [h]; decide +kernel), if_pos h]
theorem kd_BadTable (h : x.cls = "BadTable") : kindsD x = one "table" x "what" := by
  unfold kindsD
  rw [if_neg (by rw [h]; decide +kernel), if_neg (by rw [h]; decide +kernel), if_pos h]
theorem kd_BadBook (h : x.cls = "BadBook") : kindsD x = one "book" x "what" := by
  unfold kindsD
  rw [if_neg (by rw [h]; decide +kernel), if_neg (by rw [h]; decide +kernel), if_neg (by rw [h]; decide +kernel), if_pos h]
theorem kd_BadName (h : x.cls = "BadName") : kindsD x = oneR "badname" x "name" := by
  unfold kindsD
  rw [if_neg (by rw [h]; decide +kernel), if_neg (by rw [h]; decide +kernel), if_neg (by rw [h]; decide +kernel), if_neg (by rw [h]; decide +kernel), if_pos h]
theorem kd_BadText (h : x.cls = "BadText") : kindsD x = pairK "text" x "line" "word" := by
  unfold kindsD
  rw [if_neg (by rw [h]; decide +kernel), if_neg (by rw [h]; decide +kernel), if_neg (by rw [h]; decide +kernel), if_neg (by rw [h]; decide +kernel), if_neg (by rw [h]; decide +kernel), if_pos h]
theorem kd_NoPlace (h : x.cls = "NoPlace") : kindsD x = two "place" x "what" "index" := by
  unfold kindsD
  rw [if_neg (by rw [h]; decide +kernel), if_neg (by rw [h]; decide +kernel), if_neg (by rw [h]; decide +kernel), if_neg (by rw [h]; decide +kernel), if_neg (by rw [h]; decide +kernel), if_neg (by rw [h]; decide +kernel), if_pos h]
theorem kd_NoName (h : x.cls = "NoName") : kindsD x = oneR "noname" x "name" := by
  unfold kindsD
  rw [if_neg (by rw [h]; decide +kernel), if_neg (by rw [h]; decide +kernel), if_neg (by rw [h]; decide +kernel), if_neg (by rw [h]; decide +kernel), if_neg (by rw [h]; decide +kernel), if_neg (by rw [h]; decide +kernel), if_neg (by rw [h]; decide +kernel), if_pos h]
theorem kd_TakenName (h : x.cls = "TakenName") : kindsD x = oneR "taken" x "name" := by
  unfold kindsD
  rw [if_neg (by rw [h]; decide +kernel), if_neg (by rw [h]; decide +kernel), if_neg (by rw [h]; decide +kernel), if_neg (by rw [h]; decide +kernel), if_neg (by rw [h]; decide +kernel), if_neg (by rw [h]; decide +kernel), if_neg (by rw [h]; decide +kernel), if_neg (by rw [h]; decide +kernel), if_pos h]
theorem kd_Unlike (h : x.cls = "Unlike") : kindsD x = one "unlike" x "what" := by
  unfold kindsD
  rw [if_neg (by rw [h]; decide +kernel), if_neg (by rw [h]; decide +kernel), if_neg (by rw [h]; decide +kernel), if_neg (by rw [h]; decide +kernel), if_neg (by rw [h]; decide +kernel), if_neg (by rw [h]; decide +kernel), if_neg (by rw [h]; decide +kernel), if_neg (by rw [h]; decide +kernel), if_neg (by rw [h]; decide +kernel), if_pos h]
theorem kd_NotThere (h : x.cls = "NotThere") : kindsD x = one "notthere" x "paper" := by
  unfold kindsD
  rw [if_neg (by rw [h]; decide +kernel), if_neg (by rw [h]; decide +kernel), if_neg (by rw [h]; decide +kernel), if_neg (by rw [h]; decide +kernel), if_neg (by rw [h]; decide +kernel), if_neg (by rw [h]; decide +kernel), if_neg (by rw [h]; decide +kernel), if_neg (by rw [h]; decide +kernel), if_neg (by rw [h]; decide +kernel), if_neg (by rw [h]; decide +kernel), if_pos h]
theorem kd_TooMany (h : x.cls = "TooMany") : kindsD x = (x.fs.lookup ("what" : Str)).bind fun a => (x.fs.lookup ("many" : Str)).bind fun b => (x.fs.lookup ("limit" : Str)).map fun c => D.tup [.str "many", a, b, c] := by
  unfold kindsD
  rw [if_neg (by rw [h]; decide +kernel), if_neg (by rw [h]; decide +kernel), if_neg (by rw [h]; decide +kernel), if_neg (by rw [h]; decide +kernel), if_neg (by rw [h]; decide +kernel), if_neg (by rw [h]; decide +kernel), if_neg (by rw [h]; decide +kernel), if_neg (by rw [h]; decide +kernel), if_neg (by rw [h]; decide +kernel), if_neg (by rw [h]; decide +kernel), if_neg (by rw [h]; decide +kernel), if_pos h]
theorem kd_NotKept (h : x.cls = "NotKept") : kindsD x = pairK "kept" x "promise" "witness" := by
  unfold kindsD
  rw [if_neg (by rw [h]; decide +kernel), if_neg (by rw [h]; decide +kernel), if_neg (by rw [h]; decide +kernel), if_neg (by rw [h]; decide +kernel), if_neg (by rw [h]; decide +kernel), if_neg (by rw [h]; decide +kernel), if_neg (by rw [h]; decide +kernel), if_neg (by rw [h]; decide +kernel), if_neg (by rw [h]; decide +kernel), if_neg (by rw [h]; decide +kernel), if_neg (by rw [h]; decide +kernel), if_neg (by rw [h]; decide +kernel), if_pos h]
theorem kd_NothingToUndo (h : x.cls = "NothingToUndo") : kindsD x = some (.tup [.str "undo"]) := by
  unfold kindsD
  rw [if_neg (by rw [h]; decide +kernel), if_neg (by rw [h]; decide +kernel), if_neg (by rw [h]; decide +kernel), if_neg (by rw [h]; decide +kernel), if_neg (by rw [h]; decide +kernel), if_neg (by rw [h]; decide +kernel), if_neg (by rw [h]; decide +kernel), if_neg (by rw [h]; decide +kernel), if_neg (by rw [h]; decide +kernel), if_neg (by rw [h]; decide +kernel), if_neg (by rw [h]; decide +kernel), if_neg (by rw [h]; decide +kernel), if_neg (by rw [h]; decide +kernel), if_pos h]
theorem kd_NothingToRedo (h : x.cls = "NothingToRedo") : kindsD x = some (.tup [.str "redo"]) := by
  unfold kindsD
  rw [if_neg (by rw [h]; decide +kernel), if_neg (by rw [h]; decide +kernel), if_neg (by rw [h]; decide +kernel), if_neg (by rw [h]; decide +kernel), if_neg (by rw [h]; decide +kernel), if_neg (by rw [h]; decide +kernel), if_neg (by rw [h]; decide +kernel), if_neg (by rw [h]; decide +kernel), if_neg (by rw [h]; decide +kernel), if_neg (by rw [h]; decide +kernel), if_neg (by rw [h]; decide +kernel), if_neg (by rw [h]; decide +kernel), if_neg (by rw [h]; decide +kernel), if_neg (by rw [h]; decide +kernel), if_pos h]
theorem more_late {d : D} (h0 : x.cls ∈ lateN) (hd : kindsD x = some d) (q : K (.lst [d])) : tMore x a { nx := fun _ => K .non, rt := K } [.val (.ptr a), .un] := by
  refine ⟨by rw [sizeLine_eq]; show 0 ≤ _; decide, rfl, ?_⟩
  unfold lateN at h0
  simp only [List.mem_cons, List.not_mem_nil, or_false] at h0
  rcases h0 with h | h | h | h | h | h | h | h
  · rw [kd_NoName h] at hd
    refine kx_yes (by rw [h]; decide +kernel) (by decide) (k_oneR hd) ?_
    refine kx_no (by rw [h]; decide +kernel) ?_
    refine kx_no (by rw [h]; decide +kernel) ?_
    refine kx_no (by rw [h]; decide +kernel) ?_
    refine kx_no (by rw [h]; decide +kernel) ?_
    refine kx_no (by rw [h]; decide +kernel) ?_
    refine kx_no (by rw [h]; decide +kernel) ?_
    refine kx_no (by rw [h]; decide +kernel) ?_
    exact q
  · rw [kd_TakenName h] at hd
    refine kx_no (by rw [h]; decide +kernel) ?_
    refine kx_yes (by rw [h]; decide +kernel) (by decide) (k_oneR hd) ?_
    refine kx_no (by rw [h]; decide +kernel) ?_
    refine kx_no (by rw [h]; decide +kernel) ?_
    refine kx_no (by rw [h]; decide +kernel) ?_
    refine kx_no (by rw [h]; decide +kernel) ?_
    refine kx_no (by rw [h]; decide +kernel) ?_
    refine kx_no (by rw [h]; decide +kernel) ?_
    exact q
  · rw [kd_Unlike h] at hd
    refine kx_no (by rw [h]; decide +kernel) ?_
    refine kx_no (by rw [h]; decide +kernel) ?_
    refine kx_yes (by rw [h]; decide +kernel) (by decide) (k_one hd) ?_
    refine kx_no (by rw [h]; decide +kernel) ?_
    refine kx_no (by rw [h]; decide +kernel) ?_
    refine kx_no (by rw [h]; decide +kernel) ?_
    refine kx_no (by rw [h]; decide +kernel) ?_
    refine kx_no (by rw [h]; decide +kernel) ?_
    exact q
  · rw [kd_NotThere h] at hd
    refine kx_no (by rw [h]; decide +kernel) ?_
    refine kx_no (by rw [h]; decide +kernel) ?_
    refine kx_no (by rw [h]; decide +kernel) ?_
    refine kx_yes (by rw [h]; decide +kernel) (by decide) (k_one hd) ?_
    refine kx_no (by rw [h]; decide +kernel) ?_
    refine kx_no (by rw [h]; decide +kernel) ?_
    refine kx_no (by rw [h]; decide +kernel) ?_
    refine kx_no (by rw [h]; decide +kernel) ?_
    exact q
  · rw [kd_TooMany h] at hd
    refine kx_no (by rw [h]; decide +kernel) ?_
    refine kx_no (by rw [h]; decide +kernel) ?_
    refine kx_no (by rw [h]; decide +kernel) ?_
    refine kx_no (by rw [h]; decide +kernel) ?_
    refine kx_yes (by rw [h]; decide +kernel) (by decide) (k_many hd) ?_
    refine kx_no (by rw [h]; decide +kernel) ?_
    refine kx_no (by rw [h]; decide +kernel) ?_
    refine kx_no (by rw [h]; decide +kernel) ?_
    exact q
  · rw [kd_NotKept h] at hd
    refine kx_no (by rw [h]; decide +kernel) ?_
    refine kx_no (by rw [h]; decide +kernel) ?_
    refine kx_no (by rw [h]; decide +kernel) ?_
    refine kx_no (by rw [h]; decide +kernel) ?_
    refine kx_no (by rw [h]; decide +kernel) ?_
    refine kx_yes (by rw [h]; decide +kernel) (by decide) (k_pair hd) ?_
    refine kx_no (by rw [h]; decide +kernel) ?_
    refine kx_no (by rw [h]; decide +kernel) ?_
    exact q
  · rw [kd_NothingToUndo h] at hd
    cases hd
    refine kx_no (by rw [h]; decide +kernel) ?_
    refine kx_no (by rw [h]; decide +kernel) ?_
    refine kx_no (by rw [h]; decide +kernel) ?_
    refine kx_no (by rw [h]; decide +kernel) ?_
    refine kx_no (by rw [h]; decide +kernel) ?_
    refine kx_no (by rw [h]; decide +kernel) ?_
    refine kx_yes (by rw [h]; decide +kernel) (by decide) (fun K q => k_bare K q) ?_
    refine kx_no (by rw [h]; decide +kernel) ?_
    exact q
  · rw [kd_NothingToRedo h] at hd
    cases hd
    refine kx_no (by rw [h]; decide +kernel) ?_
    refine kx_no (by rw [h]; decide +kernel) ?_
    refine kx_no (by rw [h]; decide +kernel) ?_
    refine kx_no (by rw [h]; decide +kernel) ?_
    refine kx_no (by rw [h]; decide +kernel) ?_
    refine kx_no (by rw [h]; decide +kernel) ?_
    refine kx_no (by rw [h]; decide +kernel) ?_
    refine kx_yes (by rw [h]; decide +kernel) (by decide) (fun K q => k_bare K q) ?_
    exact q
theorem more_none (h1 : ∀ c ∈ lateN, isaN x.cls c = false) (q : K (.lst [])) : tMore x a { nx := fun _ => K .non, rt := K } [.val (.ptr a), .un] := by
  refine ⟨by rw [sizeLine_eq]; show 0 ≤ _; decide, rfl, ?_⟩
  refine kx_no (h1 _ (by decide +kernel)) ?_
  refine kx_no (h1 _ (by decide +kernel)) ?_
  refine kx_no (h1 _ (by decide +kernel)) ?_
  refine kx_no (h1 _ (by decide +kernel)) ?_
  refine kx_no (h1 _ (by decide +kernel)) ?_
  refine kx_no (h1 _ (by decide +kernel)) ?_
  refine kx_no (h1 _ (by decide +kernel)) ?_
  refine kx_no (h1 _ (by decide +kernel)) ?_
  exact q
theorem isa_false {c d : Str} (h : c ≠ d) (h2 : d ≠ "PowerError") : isaN c d = false := by
  unfold isaN
  rw [decide_eq_false h, decide_eq_false h2]
  rfl
theorem more_read (h : S_more x K) : tMore x a { nx := fun _ => K .non, rt := K } (startD ["e", "found"] [.ptr a]) := by
  show tMore x a _ [.val (.ptr a), .un]
  rcases h with ⟨h1, d, h2, q⟩ | ⟨h1, h2, q⟩
  · exact more_late h1 h2 q
  · refine more_none (fun c hc => isa_false (fun z => h1 (by rw [z]; exact hc)) (fun z => ?_)) q
    rw [z] at hc
    revert hc
    decide +kernel
/-- the list behind the early clauses -/
theorem kinds_end {l m : List D} (hl : l.length ≤ 1) (hm : m.length ≤ 1) (h : ∀ K' : D → Prop, K' (.lst m) → S_more x K') (q : K (.lst (l ++ m))) : (dRl 1 (dSeq (dRet (dOp kAdd (dVar 1) (dCallX S_more x a (dVar 0)))) dNext)) { nx := fun _ => K .non, rt := K } [.val (.ptr a), .own l] := by
  show D.ptr a = D.ptr a ∧ S_more x (fun y => kAdd (.lst l) y K)
  exact ⟨rfl, h _ ⟨by rw [sizeLine_eq]; omega, q⟩⟩
theorem more_early (h : x.cls ∉ lateN) (hP : x.cls ≠ "PowerError") (K' : D → Prop) (q : K' (.lst [])) : S_more x K' := .inr ⟨h, hP, q⟩
theorem kinds_read (h : S_kinds x K) : tKinds x a { nx := fun _ => K .non, rt := K } (startD ["e", "found"] [.ptr a]) := by
  obtain ⟨hx, hP, d, hd, q⟩ := h
  show tKinds x a _ [.val (.ptr a), .un]
  refine ⟨by rw [sizeLine_eq]; show 0 ≤ _; decide, rfl, ?_⟩
  refine cls_cases hx hP (fun h => ?_) (fun h => ?_) (fun h => ?_) (fun h => ?_) (fun h => ?_) (fun h => ?_) (fun h => ?_) (fun h => ?_)
  · rw [kd_BadNumber h] at hd
    refine kx_yes (by rw [h]; decide +kernel) (by decide) (k_two hd) ?_
    refine kx_no (by rw [h]; decide +kernel) ?_
    refine kx_no (by rw [h]; decide +kernel) ?_
    refine kx_no (by rw [h]; decide +kernel) ?_
    refine kx_no (by rw [h]; decide +kernel) ?_
    refine kx_no (by rw [h]; decide +kernel) ?_
    refine kx_no (by rw [h]; decide +kernel) ?_
    exact kinds_end (m := []) (Nat.le_refl 1) (Nat.zero_le 1) (more_early (by rw [h]; decide +kernel) hP) q
  · rw [kd_BadRow h] at hd
    refine kx_no (by rw [h]; decide +kernel) ?_
    refine kx_yes (by rw [h]; decide +kernel) (by decide) (k_two hd) ?_
    refine kx_no (by rw [h]; decide +kernel) ?_
    refine kx_no (by rw [h]; decide +kernel) ?_
    refine kx_no (by rw [h]; decide +kernel) ?_
    refine kx_no (by rw [h]; decide +kernel) ?_
    refine kx_no (by rw [h]; decide +kernel) ?_
    exact kinds_end (m := []) (Nat.le_refl 1) (Nat.zero_le 1) (more_early (by rw [h]; decide +kernel) hP) q
  · rw [kd_BadTable h] at hd
    refine kx_no (by rw [h]; decide +kernel) ?_
    refine kx_no (by rw [h]; decide +kernel) ?_
    refine kx_yes (by rw [h]; decide +kernel) (by decide) (k_one hd) ?_
    refine kx_no (by rw [h]; decide +kernel) ?_
    refine kx_no (by rw [h]; decide +kernel) ?_
    refine kx_no (by rw [h]; decide +kernel) ?_
    refine kx_no (by rw [h]; decide +kernel) ?_
    exact kinds_end (m := []) (Nat.le_refl 1) (Nat.zero_le 1) (more_early (by rw [h]; decide +kernel) hP) q
  · rw [kd_BadBook h] at hd
    refine kx_no (by rw [h]; decide +kernel) ?_
    refine kx_no (by rw [h]; decide +kernel) ?_
    refine kx_no (by rw [h]; decide +kernel) ?_
    refine kx_yes (by rw [h]; decide +kernel) (by decide) (k_one hd) ?_
    refine kx_no (by rw [h]; decide +kernel) ?_
    refine kx_no (by rw [h]; decide +kernel) ?_
    refine kx_no (by rw [h]; decide +kernel) ?_
    exact kinds_end (m := []) (Nat.le_refl 1) (Nat.zero_le 1) (more_early (by rw [h]; decide +kernel) hP) q
  · rw [kd_BadName h] at hd
    refine kx_no (by rw [h]; decide +kernel) ?_
    refine kx_no (by rw [h]; decide +kernel) ?_
    refine kx_no (by rw [h]; decide +kernel) ?_
    refine kx_no (by rw [h]; decide +kernel) ?_
    refine kx_yes (by rw [h]; decide +kernel) (by decide) (k_oneR hd) ?_
    refine kx_no (by rw [h]; decide +kernel) ?_
    refine kx_no (by rw [h]; decide +kernel) ?_
    exact kinds_end (m := []) (Nat.le_refl 1) (Nat.zero_le 1) (more_early (by rw [h]; decide +kernel) hP) q
  · rw [kd_BadText h] at hd
    refine kx_no (by rw [h]; decide +kernel) ?_
    refine kx_no (by rw [h]; decide +kernel) ?_
    refine kx_no (by rw [h]; decide +kernel) ?_
    refine kx_no (by rw [h]; decide +kernel) ?_
    refine kx_no (by rw [h]; decide +kernel) ?_
    refine kx_yes (by rw [h]; decide +kernel) (by decide) (k_pair hd) ?_
    refine kx_no (by rw [h]; decide +kernel) ?_
    exact kinds_end (m := []) (Nat.le_refl 1) (Nat.zero_le 1) (more_early (by rw [h]; decide +kernel) hP) q
  · rw [kd_NoPlace h] at hd
    refine kx_no (by rw [h]; decide +kernel) ?_
    refine kx_no (by rw [h]; decide +kernel) ?_
    refine kx_no (by rw [h]; decide +kernel) ?_
    refine kx_no (by rw [h]; decide +kernel) ?_
    refine kx_no (by rw [h]; decide +kernel) ?_
    refine kx_no (by rw [h]; decide +kernel) ?_
    refine kx_yes (by rw [h]; decide +kernel) (by decide) (k_two hd) ?_
    exact kinds_end (m := []) (Nat.le_refl 1) (Nat.zero_le 1) (more_early (by rw [h]; decide +kernel) hP) q
  · have no : ∀ c : Str, c ∉ lateN → c ≠ "PowerError" → isaN x.cls c = false := fun c hc h2 => isa_false (fun z => hc (by rw [← z]; exact h)) h2
    refine kx_no (no _ (by decide +kernel) (by decide +kernel)) ?_
    refine kx_no (no _ (by decide +kernel) (by decide +kernel)) ?_
    refine kx_no (no _ (by decide +kernel) (by decide +kernel)) ?_
    refine kx_no (no _ (by decide +kernel) (by decide +kernel)) ?_
    refine kx_no (no _ (by decide +kernel) (by decide +kernel)) ?_
    refine kx_no (no _ (by decide +kernel) (by decide +kernel)) ?_
    refine kx_no (no _ (by decide +kernel) (by decide +kernel)) ?_
    exact kinds_end (l := []) (m := [d]) (Nat.zero_le 1) (Nat.le_refl 1) (fun K' q => .inl ⟨h, d, hd, q⟩) q
/-! ### _law_fault -/
/-- names: call, found, e -/
def tFault (f' : Addr) (SL : (D → Prop) → (Exc → Prop) → Prop) : TDS := dSeq (dSet 1 (dVal (dC .non))) (dSeq (dTry 2 (fun EX' => dSeq (dDrop (dAct f' SL EX')) dNext) fun x a => dSeq (dSet 1 (dVal (dCallX S_kinds x a (dVar 2))))
  (dSeq (dSet 1 (dVal (dIf (dtAnd (dTest (dOp kEq (dB kLen (daCons (dVar 1) daNil)) (dC (.int 1)))) (dTru (dIsX (dVar 2) a true))) (dOp kIx (dVar 1) (dC (.int 0))) (dTup (daCons (dC (.str "several")) (daCons (dB kLen (daCons (dVar 1) daNil)) daNil)))))) dNext)) (dSeq (dRet (dVar 1)) dNext))
theorem fault_read {f' : Addr} {SL : (D → Prop) → (Exc → Prop) → Prop} (sm : ∀ K K' E E', (∀ d, K d → K' d) → (∀ x, E x → E' x) → SL K E → SL K' E') {Kk : D → Prop} (h : SL (fun _ => Kk .non) (RKf Kk)) :
    tFault f' SL { nx := fun _ => Kk .non, rt := Kk } (startD ["call", "found", "e"] [.ptr f']) := by
  have e : (startD ["call", "found", "e"] [D.ptr f']).set 1 (Slot.val D.non) = [.val (.ptr f'), .val .non, .un] := rfl
  refine ⟨rfl, ?_⟩
  rw [e]
  refine And.intro rfl ?_
  refine ⟨rfl, sm _ _ _ _ (fun d hd => hd) (fun x hx => ?_) h⟩
  obtain ⟨h1, d, h2, q⟩ := hx
  refine ⟨h1, rfl, fun a => ?_⟩
  have hP : x.cls ≠ "PowerError" := fun z => by
    unfold kindsD at h2
    rw [if_neg (by rw [z]; decide +kernel), if_neg (by rw [z]; decide +kernel), if_neg (by rw [z]; decide +kernel), if_neg (by rw [z]; decide +kernel), if_neg (by rw [z]; decide +kernel), if_neg (by rw [z]; decide +kernel), if_neg (by rw [z]; decide +kernel), if_neg (by rw [z]; decide +kernel), if_neg (by rw [z]; decide +kernel), if_neg (by rw [z]; decide +kernel), if_neg (by rw [z]; decide +kernel), if_neg (by rw [z]; decide +kernel), if_neg (by rw [z]; decide +kernel), if_neg (by rw [z]; decide +kernel), if_neg (by rw [z]; decide +kernel)] at h2
    cases h2
  refine And.intro rfl (And.intro h1 (And.intro hP ⟨d, h2, rfl, ?_⟩))
  refine And.intro rfl ⟨true, rfl, ?_⟩
  exact ⟨d, rfl, rfl, q⟩
end
end DL

set_option Elab.async false
set_option linter.all false
set_option maxRecDepth 100000
set_option maxHeartbeats 8000000
/-! DL25: readings grow with what is wanted; the suite of _law_fault. -/
namespace DL
open PySem PySem.Spec PyProof.Rows L2 LamX
abbrev MT (t : TDT) : Prop := ∀ δ (K K' : Bool → Prop), (∀ d, K d → K' d) → t δ K → t δ K'
abbrev MS (t : TDS) : Prop := ∀ D1 D2 δ, DEnds.Le D1 D2 → t D1 δ → t D2 δ
theorem ms_next : MS dNext := fun D1 D2 δ l h => l.nx _ h
theorem ms_seq {t u : TDS} (ht : MS t) (hu : MS u) : MS (dSeq t u) := fun D1 D2 δ l h => ht { D1 with nx := u D1 } { D2 with nx := u D2 } δ ⟨fun δ' h => hu _ _ _ l h, l.rt, l.bk, l.ct⟩ h
theorem ms_set {i : Nat} {t : TD} (h : ME t) : MS (dSet i (dVal t)) := fun D1 D2 δ l q => h _ _ _ (fun d hd => ⟨hd.1, l.nx _ hd.2⟩) q
theorem me_if {c : TDT} {t u : TD} (hc : MT c) (ht : ME t) (hu : ME u) : ME (dIf c t u) := fun δ K K' hk h => hc _ _ _ (fun b hb => by
  cases b with
  | true => exact ht _ _ _ hk hb
  | false => exact hu _ _ _ hk hb) h
theorem mt_and {t u : TDT} (ht : MT t) (hu : MT u) : MT (dtAnd t u) := fun δ K K' hk h => ht _ _ _ (fun b hb => by
  cases b with
  | true => exact hu _ _ _ hk hb
  | false => exact hk _ hb) h
theorem mt_test {t : TD} (h : ME t) : MT (dTest t) := fun δ K K' hk q => h _ _ _ (Kb_mono hk) q
theorem mt_tru {t : TD} (h : ME t) : MT (dTru t) := fun δ K K' hk q => h _ _ _ (fun d ⟨b, e, q⟩ => ⟨b, e, hk _ q⟩) q
theorem me_isX {t : TD} {a : Addr} {r : Bool} (h : ME t) : ME (dIsX t a r) := fun δ K K' hk q => h _ _ _ (fun d ⟨e, q⟩ => ⟨e, hk _ q⟩) q
theorem me_callX {S : SpecX} {x : Exc} {a : Addr} {t : TD} (sm : ∀ x (K K' : D → Prop), (∀ d, K d → K' d) → S x K → S x K') (h : ME t) : ME (dCallX S x a t) := fun δ K K' hk q => h _ _ _ (fun d ⟨e, q⟩ => ⟨e, sm _ _ _ hk q⟩) q
def tFaultS (x : Exc) (a : Addr) : TDS := dSeq (dSet 1 (dVal (dCallX S_kinds x a (dVar 2))))
  (dSeq (dSet 1 (dVal (dIf (dtAnd (dTest (dOp kEq (dB kLen (daCons (dVar 1) daNil)) (dC (.int 1)))) (dTru (dIsX (dVar 2) a true))) (dOp kIx (dVar 1) (dC (.int 0))) (dTup (daCons (dC (.str "several")) (daCons (dB kLen (daCons (dVar 1) daNil)) daNil)))))) dNext)
theorem faultS_mono (x : Exc) (a : Addr) : MS (tFaultS x a) := ms_seq (ms_set (me_callX kinds_mono me_var)) (ms_seq (ms_set (me_if (mt_and (mt_test (me_op kEq_mono (me_b mLen (ma_cons me_var ma_nil)) me_c)) (mt_tru (me_isX me_var))) (me_op kIx_mono me_var me_c) (me_tup (ma_cons me_c (ma_cons (me_b mLen (ma_cons me_var ma_nil)) ma_nil))))) ms_next)
theorem faultB_mono {f' : Addr} {SL : (D → Prop) → (Exc → Prop) → Prop} (sm : ∀ K K' E E', (∀ d, K d → K' d) → (∀ x, E x → E' x) → SL K E → SL K' E') (EX' EX'' : List Slot → Exc → Prop) (D1 D2 : DEnds) (δ : List Slot) (he : ∀ δ x, EX' δ x → EX'' δ x) (l : DEnds.Le D1 D2)
    (h : dSeq (dDrop (dAct f' SL EX')) dNext D1 δ) : dSeq (dDrop (dAct f' SL EX'')) dNext D2 δ := ⟨h.1, sm _ _ _ _ (fun _ h => l.nx _ h) (he δ) h.2⟩
end DL

set_option Elab.async false
set_option linter.all false
set_option maxRecDepth 100000
set_option maxHeartbeats 8000000
/-! DL26: the errors' own __init__. -/
namespace DL
open PySem PySem.Spec PyProof.Rows L2 LamX
section
variable {K : PySem.W.Frag} {C : Addr} {f1 f2 f3 : Str} {vs : List V} {H : Hp} {Q : VK} {E : XK}
abbrev ini1 (K : PySem.W.Frag) (f1 : Str) : TS := tSeq (tOst K f1 (tVar 0) (tVar 1)) tNext
abbrev ini2 (K : PySem.W.Frag) (f1 f2 : Str) : TS := tSeq (tOst K f1 (tVar 0) (tVar 1)) (tSeq (tOst K f2 (tVar 0) (tVar 2)) tNext)
abbrev ini3 (K : PySem.W.Frag) (f1 f2 f3 : Str) : TS := tSeq (tOst K f1 (tVar 0) (tVar 1)) (tSeq (tOst K f2 (tVar 0) (tVar 2)) (tSeq (tOst K f3 (tVar 0) (tVar 3)) tNext))
theorem upd_at {H : Hp} {a d b : Addr} {o o' : HO} (h1 : b ≠ a) (h2 : b ≠ d) : upd (upd H d o) a o' b = H b := by rw [upd_ne h1, upd_ne h2]
theorem init1 (T : OexC K C) (n1 : PySem.W.findIn K (.ref C) f1 = some none) (h : spInit K C [f1] vs H Q E) : ini1 K f1 { nx := fun _ H' => Q .non H', rt := Q } (L2.start ["self", f1] vs) H := by
  obtain ⟨a, ys, rfl, hl, ha, h⟩ := h
  obtain ⟨y, rfl⟩ : ∃ y, ys = [y] := by
    match ys, hl with
    | [y], _ => exact ⟨y, rfl⟩
  refine ⟨y, rfl, .ref a, rfl, a, C, rfl, T, n1, .inl ⟨ha, fun dx hd nda => ?_⟩⟩
  exact h dx _ [(f1, y)] hd upd_same (by rw [upd_ne nda, upd_same]) nda (fun b h1 h2 => upd_at h1 h2) fun f z q => q
theorem init2 (T : OexC K C) (n1 : PySem.W.findIn K (.ref C) f1 = some none) (n2 : PySem.W.findIn K (.ref C) f2 = some none) (hne : f1 ≠ f2) (h : spInit K C [f1, f2] vs H Q E) : ini2 K f1 f2 { nx := fun _ H' => Q .non H', rt := Q } (L2.start ["self", f1, f2] vs) H := by
  obtain ⟨a, ys, rfl, hl, ha, h⟩ := h
  obtain ⟨y, z, rfl⟩ : ∃ y z, ys = [y, z] := by
    match ys, hl with
    | [y, z], _ => exact ⟨y, z, rfl⟩
  refine ⟨y, rfl, .ref a, rfl, a, C, rfl, T, n1, .inl ⟨ha, fun dx hd nda => ?_⟩⟩
  refine ⟨z, rfl, .ref a, rfl, a, C, rfl, T, n2, .inr ⟨dx, _, upd_same, by rw [upd_ne nda, upd_same], by show 1 ≤ 900; decide, ?_⟩⟩
  refine h dx _ [(f2, z), (f1, y)] hd (by rw [upd_ne (Ne.symm nda), upd_same]) upd_same nda (fun b h1 h2 => by rw [upd_ne h2]; exact upd_at h1 h2) fun f w q => ?_
  rw [List.zip_cons_cons, List.zip_cons_cons, List.zip_nil_left] at q
  rw [lookup_putG, lookup_putG] at q ⊢
  by_cases e1 : f = f1
  · have e2 : f ≠ f2 := fun e => hne (e1.symm.trans e)
    rw [if_pos e1] at q
    rw [if_neg e2, if_pos e1]; exact q
  · rw [if_neg e1] at q
    by_cases e2 : f = f2
    · rw [if_pos e2] at q ⊢; exact q
    · rw [if_neg e2] at q; cases q
theorem init3 (T : OexC K C) (n1 : PySem.W.findIn K (.ref C) f1 = some none) (n2 : PySem.W.findIn K (.ref C) f2 = some none) (n3 : PySem.W.findIn K (.ref C) f3 = some none) (h12 : f1 ≠ f2) (h13 : f1 ≠ f3) (h23 : f2 ≠ f3) (h : spInit K C [f1, f2, f3] vs H Q E) :
    ini3 K f1 f2 f3 { nx := fun _ H' => Q .non H', rt := Q } (L2.start ["self", f1, f2, f3] vs) H := by
  obtain ⟨a, ys, rfl, hl, ha, h⟩ := h
  obtain ⟨y, z, w, rfl⟩ : ∃ y z w, ys = [y, z, w] := by
    match ys, hl with
    | [y, z, w], _ => exact ⟨y, z, w, rfl⟩
  refine ⟨y, rfl, .ref a, rfl, a, C, rfl, T, n1, .inl ⟨ha, fun dx hd nda => ?_⟩⟩
  refine ⟨z, rfl, .ref a, rfl, a, C, rfl, T, n2, .inr ⟨dx, _, upd_same, by rw [upd_ne nda, upd_same], by show 1 ≤ 900; decide, ?_⟩⟩
  refine ⟨w, rfl, .ref a, rfl, a, C, rfl, T, n3, .inr ⟨dx, _, by rw [upd_ne (Ne.symm nda), upd_same], upd_same, by show 2 ≤ 900; decide, ?_⟩⟩
  refine h dx _ [(f3, w), (f2, z), (f1, y)] hd (by rw [upd_ne (Ne.symm nda), upd_ne (Ne.symm nda), upd_same]) upd_same nda (fun b h1 h2 => by rw [upd_ne h2, upd_ne h2]; exact upd_at h1 h2) fun f u q => ?_
  have q : (if f = f1 then some y else if f = f2 then some z else if f = f3 then some w else none) = some u := by
    rw [List.zip_cons_cons, List.zip_cons_cons, List.zip_cons_cons, List.zip_nil_left, lookup_putG, lookup_putG, lookup_putG] at q
    exact q
  rw [lookup_putG, lookup_putG, lookup_putG]
  by_cases e1 : f = f1
  · rw [if_pos e1] at q
    rw [if_neg (fun e => h13 (e1.symm.trans e)), if_neg (fun e => h12 (e1.symm.trans e)), if_pos e1]; exact q
  · rw [if_neg e1] at q
    by_cases e2 : f = f2
    · rw [if_pos e2] at q
      rw [if_neg (fun e => h23 (e2.symm.trans e)), if_pos e2]; exact q
    · rw [if_neg e2] at q
      by_cases e3 : f = f3
      · rw [if_pos e3] at q ⊢; exact q
      · rw [if_neg e3] at q; cases q
end
section
variable {P : Program} {w : World} {K : PySem.W.Frag} {mg : Str → Option Value} {base : Heap} {x q : Str} {C fI : Addr} {fd : FuncData} {st : Stmt} {f1 f2 f3 : Str}
abbrev cxI (P : Program) (w : World) (K : PySem.W.Frag) (mg : Str → Option Value) (base : Heap) (N : List Str) (q : Str) (st : Stmt) (f : Addr) (cdv : Value) (A : Around) (outer : List Env) (s : Shared) (H : Hp) (E : XK) : Cx := (cxOf CX0 P w K mg base N q (defScope st) f cdv A outer s H E).nox
theorem spInit_len {fs : List Str} : ∀ vs H Q E, spInit K C fs vs H Q E → vs.length = (("self" : Str) :: fs).length := fun vs H Q E ⟨a, ys, e, hl, _⟩ => by rw [e, List.length_cons, List.length_cons, hl]
theorem xcls1 (hm : mg x = some (.ref C)) (T : OexC K C) (iC : PySem.W.findIn K (.ref C) "__init__" = some (some (.ref fI))) (tI : PySem.W.typeIn K (.ref fI) = some (.type "function")) (F : Fun K "__init__" q st fI fd) (Sc : FnScope ["self", f1] ["self", f1] (defScope st)) (bd : Binds K fd ["self", f1] []) (n1 : PySem.W.findIn K (.ref C) f1 = some none)
    (body : ∀ (cdv : Value) (A : Around) (outer : List Env) (s : Shared) (H : Hp) (E : XK), PSs (cxI P w K mg base ["self", f1] q st fI cdv A outer s H E) (defBody st) (ini1 K f1)) : XCls P w K mg base x [f1] :=
  ⟨⟨C, fI, fd, _, hm, T, iC, tI, bd, Fun.ok F Sc spInit_len fun cdv A outer s H vs Q E hr h => ⟨_, body cdv A outer s H E, init1 T n1 h⟩⟩, by simp, by simp⟩
theorem xcls2 (hm : mg x = some (.ref C)) (T : OexC K C) (iC : PySem.W.findIn K (.ref C) "__init__" = some (some (.ref fI))) (tI : PySem.W.typeIn K (.ref fI) = some (.type "function")) (F : Fun K "__init__" q st fI fd) (Sc : FnScope ["self", f1, f2] ["self", f1, f2] (defScope st)) (bd : Binds K fd ["self", f1, f2] []) (n1 : PySem.W.findIn K (.ref C) f1 = some none) (n2 : PySem.W.findIn K (.ref C) f2 = some none) (hne : f1 ≠ f2)
    (body : ∀ (cdv : Value) (A : Around) (outer : List Env) (s : Shared) (H : Hp) (E : XK), PSs (cxI P w K mg base ["self", f1, f2] q st fI cdv A outer s H E) (defBody st) (ini2 K f1 f2)) : XCls P w K mg base x [f1, f2] :=
  ⟨⟨C, fI, fd, _, hm, T, iC, tI, bd, Fun.ok F Sc spInit_len fun cdv A outer s H vs Q E hr h => ⟨_, body cdv A outer s H E, init2 T n1 n2 hne h⟩⟩, by simp, by simp [hne]⟩
theorem xcls3 (hm : mg x = some (.ref C)) (T : OexC K C) (iC : PySem.W.findIn K (.ref C) "__init__" = some (some (.ref fI))) (tI : PySem.W.typeIn K (.ref fI) = some (.type "function")) (F : Fun K "__init__" q st fI fd) (Sc : FnScope ["self", f1, f2, f3] ["self", f1, f2, f3] (defScope st)) (bd : Binds K fd ["self", f1, f2, f3] [])
    (n1 : PySem.W.findIn K (.ref C) f1 = some none) (n2 : PySem.W.findIn K (.ref C) f2 = some none) (n3 : PySem.W.findIn K (.ref C) f3 = some none) (h12 : f1 ≠ f2) (h13 : f1 ≠ f3) (h23 : f2 ≠ f3)
    (body : ∀ (cdv : Value) (A : Around) (outer : List Env) (s : Shared) (H : Hp) (E : XK), PSs (cxI P w K mg base ["self", f1, f2, f3] q st fI cdv A outer s H E) (defBody st) (ini3 K f1 f2 f3)) : XCls P w K mg base x [f1, f2, f3] :=
  ⟨⟨C, fI, fd, _, hm, T, iC, tI, bd, Fun.ok F Sc spInit_len fun cdv A outer s H vs Q E hr h => ⟨_, body cdv A outer s H E, init3 T n1 n2 n3 h12 h13 h23 h⟩⟩, by simp, by simp [h12, h13, h23]⟩
end
end DL

set_option Elab.async false
set_option linter.all false
set_option maxRecDepth 100000
set_option maxHeartbeats 4000000
/-! DL27: one reading grows into another, part by part. -/
namespace DL
open PySem PySem.Spec PyProof.Rows L2 LamX
abbrev RE (t t' : TD) : Prop := ∀ δ (K K' : D → Prop), (∀ d, K d → K' d) → t δ K → t' δ K'
abbrev RA (t t' : TDA) : Prop := ∀ δ (K K' : List D → Prop), (∀ d, K d → K' d) → t δ K → t' δ K'
abbrev RT (t t' : TDT) : Prop := ∀ δ (K K' : Bool → Prop), (∀ d, K d → K' d) → t δ K → t' δ K'
abbrev RV (t t' : TDV) : Prop := ∀ δ (K K' : Slot → Prop), (∀ d, K d → K' d) → t δ K → t' δ K'
abbrev RG (t t' : TDG) : Prop := ∀ d δ (K K' : List Slot → Prop), (∀ d, K d → K' d) → t d δ K → t' d δ K'
abbrev RGs (t t' : TDGs) : Prop := ∀ d δ (K K' : List Slot → Prop), (∀ d, K d → K' d) → t d δ K → t' d δ K'
abbrev RS (t t' : TDS) : Prop := ∀ D1 D2 δ, DEnds.Le D1 D2 → t D1 δ → t' D2 δ
section
variable {t t' u u' v v' : TD} {a a' : TDA} {c c' c2 c2' : TDT} {w w' : TDV} {ti ti' : TDI} {g g' : TDG} {gs gs' : TDGs} {s s' r r' : TDS} {i j l : Nat}
theorem re_var : RE (dVar i) (dVar i) := me_var
theorem re_c {d : D} : RE (dC d) (dC d) := me_c
theorem re_op {k : D → D → (D → Prop) → Prop} (km : Mono2 k) (ht : RE t t') (hu : RE u u') : RE (dOp k t u) (dOp k t' u') := fun δ K K' hk h => ht _ _ _ (fun x hx => hu _ _ _ (fun y hy => km _ _ _ _ hk hy) hx) h
theorem re_tup (h : RA a a') : RE (dTup a) (dTup a') := fun δ K K' hk q => h _ _ _ (fun ds z => ⟨z.1, hk _ z.2⟩) q
theorem re_lst (h : RA a a') : RE (dLst a) (dLst a') := fun δ K K' hk q => h _ _ _ (fun ds z => ⟨z.1, hk _ z.2⟩) q
theorem re_b {k : List D → (D → Prop) → Prop} (km : MonoL k) (h : RA a a') : RE (dB k a) (dB k a') := fun δ K K' hk q => h _ _ _ (fun ds z => km _ _ _ hk z) q
theorem re_call {S : Spec} {EX EX' : List Slot → Exc → Prop} (sm : SMono S) (he : ∀ δ x, EX δ x → EX' δ x) (h : RA a a') : RE (dCall S EX a) (dCall S EX' a') := fun δ K K' hk q => h _ _ _ (fun ds z => sm _ _ _ _ _ hk (he δ) z) q
theorem re_callV {Γ : List (Str × Spec)} {EX EX' : List Slot → Exc → Prop} (sm : ∀ q ∈ Γ, SMono q.2) (he : ∀ δ x, EX δ x → EX' δ x) (h : RA a a') : RE (dCallV i Γ EX a) (dCallV i Γ EX' a') := fun δ K K' hk q => by
  unfold dCallV at q ⊢
  split at q
  · obtain ⟨S, hs, q⟩ := q
    exact ⟨S, hs, h _ _ _ (fun ds z => sm _ hs _ _ _ _ _ hk (he δ) z) q⟩
  · exact q
theorem re_isi {f : D → Option Bool} (h : RE t t') : RE (kIsi f t) (kIsi f t') := fun δ K K' hk q => h _ _ _ (fun d ⟨b, e, q⟩ => ⟨b, e, hk _ q⟩) q
theorem re_neg (h : RE t t') : RE (dNeg t) (dNeg t') := fun δ K K' hk q => h _ _ _ (fun d hd => by cases d <;> first | exact hk _ hd | exact (show False from hd).elim) q
theorem re_chain {k k' : D → D → (D → Prop) → Prop} (km : Mono2 k) (km' : Mono2 k') (ha : RE t t') (hb : RE u u') (hc : RE v v') : RE (dChain k k' t u v) (dChain k k' t' u' v') := fun δ K K' hk h =>
  ha _ _ _ (fun x hx => hb _ _ _ (fun y hy => km _ _ _ _ (Kb_mono fun r hr => by
    cases r with
    | true => exact hc _ _ _ (fun z hz => km' _ _ _ _ hk hz) hr
    | false => exact hk _ hr) hy) hx) h
theorem re_ixO (h : RE t t') : RE (dIxO i t) (dIxO i t') := fun δ K K' hk q => by
  unfold dIxO at q ⊢
  split at q
  · refine h _ _ _ (fun d hd => ?_) q
    cases d with
    | int n =>
      obtain ⟨d, e, q⟩ := hd
      exact ⟨d, e, hk _ q⟩
    | _ => exact hd
  · exact q
theorem re_lenO : RE (dLenO i) (dLenO i) := fun δ K K' hk q => by
  unfold dLenO at q ⊢
  split at q
  · exact hk _ q
  · exact q
theorem re_if (hc : RT c c') (ht : RE t t') (hu : RE u u') : RE (dIf c t u) (dIf c' t' u') := fun δ K K' hk h => hc _ _ _ (fun b hb => by
  cases b with
  | true => exact ht _ _ _ hk hb
  | false => exact hu _ _ _ hk hb) h
theorem re_and (ht : RE t t') (hu : RE u u') : RE (dAnd t u) (dAnd t' u') := fun δ K K' hk h => ht _ _ _ (Kb_mono fun b hb => by
  cases b with
  | true => exact hu _ _ _ hk hb
  | false => exact hk _ hb) h
theorem re_or (ht : RE t t') (hu : RE u u') : RE (dOr t u) (dOr t' u') := fun δ K K' hk h => ht _ _ _ (Kb_mono fun b hb => by
  cases b with
  | true => exact hk _ hb
  | false => exact hu _ _ _ hk hb) h
theorem re_not (h : RT c c') : RE (dNot c) (dNot c') := fun δ K K' hk q => h _ _ _ (fun b hb => hk _ hb) q
theorem re_notV (h : RE t t') : RE (dNotV t) (dNotV t') := fun δ K K' hk q => h _ _ _ (Kb_mono fun b hb => hk _ hb) q
theorem re_ofV (h : RV w w') : RE (dOfV w) (dOfV w') := fun δ K K' hk q => h _ _ _ (sD_mono hk) q
theorem re_lam {RK : (D → Prop) → Exc → Prop} {tb : (List Slot → Exc → Prop) → TD} (sm : ∀ (K K' : D → Prop), (∀ d, K d → K' d) → ∀ x, RK K x → RK K' x) (h : ∀ EX EX' : List Slot → Exc → Prop, (∀ δ x, EX δ x → EX' δ x) → RE (tb EX) (tb EX')) : RE (dLam RK tb) (dLam RK tb) :=
  fun δ K K' hk q => h _ _ (fun _ x z => sm _ _ hk x z) _ _ _ (fun _ z => hk _ z) q
theorem ra_nil : RA daNil daNil := ma_nil
theorem ra_cons (ht : RE t t') (hu : RA a a') : RA (daCons t a) (daCons t' a') := fun δ K K' hk h => ht _ _ _ (fun d hd => hu _ _ _ (fun ds q => hk _ q) hd) h
theorem rt_test (h : RE t t') : RT (dTest t) (dTest t') := fun δ K K' hk q => h _ _ _ (Kb_mono hk) q
theorem rt_tru (h : RE t t') : RT (dTru t) (dTru t') := fun δ K K' hk q => h _ _ _ (fun d ⟨b, e, q⟩ => ⟨b, e, hk _ q⟩) q
theorem rt_not (h : RT c c') : RT (dtNot c) (dtNot c') := fun δ K K' hk q => h _ _ _ (fun b hb => hk _ hb) q
theorem rt_and (hc : RT c c') (hd : RT c2 c2') : RT (dtAnd c c2) (dtAnd c' c2') := fun δ K K' hk h => hc _ _ _ (fun b hb => by
  cases b with
  | true => exact hd _ _ _ hk hb
  | false => exact hk _ hb) h
theorem rt_or (hc : RT c c') (hd : RT c2 c2') : RT (dtOr c c2) (dtOr c' c2') := fun δ K K' hk h => hc _ _ _ (fun b hb => by
  cases b with
  | true => exact hk _ hb
  | false => exact hd _ _ _ hk hb) h
theorem rt_yes : RT dYes dYes := fun δ K K' hk h => hk _ h
theorem rv_val (h : RE t t') : RV (dVal t) (dVal t') := fun δ K K' hk q => h _ _ _ (fun d hd => hk _ hd) q
theorem rv_newL (h : RA a a') : RV (dNewL a) (dNewL a') := fun δ K K' hk q => h _ _ _ (fun d hd => ⟨hd.1, hk _ hd.2⟩) q
theorem rv_newD : RV dNewD dNewD := fun δ K K' hk q => hk _ q
theorem ri_seq (h : RE t t') : RA (tiSeq t) (tiSeq t') := fun δ K K' hk q => h _ _ _ (fun d ⟨b, e, q⟩ => ⟨b, e, hk _ q⟩) q
theorem ri_r (h : RE t t') : RA (tiR t) (tiR t') := fun δ K K' hk q => h _ _ _ (fun d hd => by
  cases d with
  | int n => exact ⟨hd.1, hd.2.1, hk _ hd.2.2⟩
  | _ => exact hd) q
theorem ri_r2 (h : RE t t') (h2 : RE u u') : RA (tiR2 t u) (tiR2 t' u') := fun δ K K' hk q => h _ _ _ (fun c hc => h2 _ _ _ (fun d hd => by
  cases c with
  | int m => cases d with
    | int n => exact ⟨hd.1, hk _ hd.2⟩
    | _ => exact hd
  | _ => cases d <;> exact hd) hc) q
theorem rlcT (mg : RG g g') (mt : RT c c') (me : RE t t') {δ : List Slot} {K K' : List D → Prop} (hk : ∀ ds, K ds → K' ds) : ∀ ds acc, lcT g c t δ K ds acc → lcT g' c' t' δ K' ds acc
  | [], acc, h => hk _ h
  | d :: ds, acc, h => mg _ _ _ _ (fun δ2 h => mt _ _ _ (fun b h => by
    cases b with
    | true => exact me _ _ _ (fun y h => ⟨h.1, rlcT mg mt me hk ds _ h.2⟩) h
    | false => exact rlcT mg mt me hk ds _ h) h) h
theorem rv_lc {vs : List Nat} (hi : RA ti ti') (hg : RG g g') (hc : RT c c') (ht : RE t t') : RV (dLcV ti g c t vs) (dLcV ti' g' c' t' vs) := fun δ K K' hk q => hi _ _ _ (fun ds h => rlcT hg hc ht (fun acc q => hk _ q) ds [] h) q
theorem rg_name : RG (dgName i) (dgName i) := fun d δ K K' hk h => hk _ h
theorem rgs_nil : RGs dgNil dgNil := fun d δ K K' hk h => ⟨h.1, hk _ h.2⟩
theorem rgs_cons (h1 : RG g g') (h2 : RGs gs gs') : RGs (dgCons g gs) (dgCons g' gs') := fun d δ K K' hk h => by
  cases d with
  | nil => exact h
  | cons d r => exact h1 _ _ _ _ (fun δ' h => h2 _ _ _ _ hk h) h
theorem rg_tup {n : Nat} (h : RGs gs gs') : RG (dgTup n gs) (dgTup n gs') := fun d δ K K' hk q => by
  cases d with
  | tup ds => exact ⟨q.1, h _ _ _ _ hk q.2⟩
  | _ => exact (show False from q).elim
theorem rs_next : RS dNext dNext := fun D1 D2 δ l h => l.nx _ h
theorem rs_seq (h1 : RS s s') (h2 : RS r r') : RS (dSeq s r) (dSeq s' r') := fun D1 D2 δ l h => h1 { D1 with nx := r D1 } { D2 with nx := r' D2 } δ ⟨fun δ' h => h2 _ _ _ l h, l.rt, l.bk, l.ct⟩ h
theorem rs_break : RS dBreak dBreak := fun D1 D2 δ l h => l.bk _ h
theorem rs_cont : RS dCont dCont := fun D1 D2 δ l h => l.ct _ h
theorem rs_drop (h : RE t t') : RS (dDrop t) (dDrop t') := fun D1 D2 δ l q => h _ _ _ (fun d hd => l.nx _ hd) q
theorem rs_ret (h : RE t t') : RS (dRet t) (dRet t') := fun D1 D2 δ l q => h _ _ _ (fun d hd => l.rt _ hd) q
theorem rs_retN : RS dRetN dRetN := fun D1 D2 δ l h => l.rt _ h
theorem rs_if (hc : RT c c') (h1 : RS s s') (h2 : RS r r') : RS (dIfS c s r) (dIfS c' s' r') := fun D1 D2 δ l h => hc _ _ _ (fun b hb => by
  cases b with
  | true => exact h1 _ _ _ l hb
  | false => exact h2 _ _ _ l hb) h
theorem rs_set (h : RV w w') : RS (dSet i w) (dSet i w') := fun D1 D2 δ l q => h _ _ _ (fun d hd => ⟨hd.1, l.nx _ hd.2⟩) q
theorem rs_asg (h : RE t t') (hg : RG g g') : RS (dAsg t g) (dAsg t' g') := fun D1 D2 δ l q => h _ _ _ (fun d hd => hg _ _ _ _ (fun δ h => l.nx _ h) hd) q
theorem rs_rl (h : RS s s') : RS (dRl i s) (dRl i s') := fun D1 D2 δ l q => h _ _ _ l q
theorem rs_app (h : RE t t') : RS (dApp i t) (dApp i t') := fun D1 D2 δ l q => by
  unfold dApp at q ⊢
  split at q
  · exact h _ _ _ (fun d hd => ⟨hd.1, l.nx _ hd.2⟩) q
  · exact q
theorem rs_ext (h : RE t t') : RS (dExt i t) (dExt i t') := fun D1 D2 δ l q => by
  unfold dExt at q ⊢
  split at q
  · exact h _ _ _ (fun d hd => by
      cases d with
      | lst es => exact ⟨hd.1, l.nx _ hd.2⟩
      | _ => exact hd) q
  · exact q
theorem rturns (hg : RG g g') (hb : RS s s') {D1 D2 : DEnds} (le : DEnds.Le D1 D2) : ∀ ds δ, turns g s D1 ds δ → turns g' s' D2 ds δ
  | [], δ, h => le.nx _ h
  | d :: ds, δ, h => hg _ _ _ _ (fun δ1 h => hb { D1 with nx := turns g s D1 ds, ct := turns g s D1 ds, bk := D1.nx } { D2 with nx := turns g' s' D2 ds, ct := turns g' s' D2 ds, bk := D2.nx } _
      ⟨fun δ h => rturns hg hb le ds δ h, le.rt, le.nx, fun δ h => rturns hg hb le ds δ h⟩ h) h
theorem rs_for (h : RE t t') (hg : RG g g') (hb : RS s s') : RS (dFor t g s) (dFor t' g' s') := fun D1 D2 δ l q => h _ _ _ (fun d ⟨ds, e, q⟩ => ⟨ds, e, rturns hg hb l ds δ q⟩) q
theorem rs_forR (h : RE t t') (hg : RG g g') (hb : RS s s') : RS (dForR t g s) (dForR t' g' s') := fun D1 D2 δ l q => h _ _ _ (fun d hd => by
  cases d with
  | int n => exact ⟨hd.1, hd.2.1, rturns hg hb l _ _ hd.2.2⟩
  | _ => exact hd) q
theorem rs_forR2 (h : RE t t') (h2 : RE u u') (hg : RG g g') (hb : RS s s') : RS (dForR2 t u g s) (dForR2 t' u' g' s') := fun D1 D2 δ l q => h _ _ _ (fun c hc => h2 _ _ _ (fun d hd => by
  cases c with
  | int m => cases d with
    | int n => exact ⟨hd.1, rturns hg hb l _ _ hd.2⟩
    | _ => exact hd
  | _ => cases d <;> exact hd) hc) q
theorem rlaps (hc : RT c c') (hb : RS s s') {D1 D2 : DEnds} (l : DEnds.Le D1 D2) : ∀ n δ, laps c s D1 n δ → laps c' s' D2 n δ
  | 0, δ, h => h.elim
  | n + 1, δ, h => hc _ _ _ (fun b hbb => by
    cases b with
    | true => exact hb { D1 with nx := laps c s D1 n, ct := laps c s D1 n, bk := D1.nx } { D2 with nx := laps c' s' D2 n, ct := laps c' s' D2 n, bk := D2.nx } _ ⟨fun δ h => rlaps hc hb l n δ h, l.rt, l.nx, fun δ h => rlaps hc hb l n δ h⟩ hbb
    | false => exact l.nx _ hbb) h
theorem rs_while (hc : RT c c') (hb : RS s s') : RS (dWhile c s) (dWhile c' s') := fun D1 D2 δ l ⟨n, h⟩ => ⟨n, rlaps hc hb l n δ h⟩
theorem rs_raise {x : Str} {fs : List Str} {EX EX' : List Slot → Exc → Prop} (he : ∀ δ x, EX δ x → EX' δ x) (h : RA a a') : RS (dRaise x fs EX a) (dRaise x fs EX' a') := fun D1 D2 δ l q => h _ _ _ (fun d hd => ⟨hd.1, hd.2.1, he _ _ hd.2.2⟩) q
theorem rs_raise0 {x : Str} {EX EX' : List Slot → Exc → Prop} (he : ∀ δ x, EX δ x → EX' δ x) : RS (dRaise0 x EX) (dRaise0 x EX') := fun D1 D2 δ l q => he _ _ q
theorem rs_par (h : RA a a') : RS (dPar i j a) (dPar i j a') := fun D1 D2 δ l q => h _ _ _ (fun ds hd => by
  split at hd
  · exact l.nx _ hd
  · exact hd.elim) q
theorem rs_par3 (h : RA a a') : RS (dPar3 i j l a) (dPar3 i j l a') := fun D1 D2 δ l q => h _ _ _ (fun ds hd => by
  split at hd
  · exact l.nx _ hd
  · exact hd.elim) q
end
/-- a def's promise: its reading, with room for its names -/
def rdS (n : Nat) (t : (Exc → Prop) → TDS) (N : List Str) : Spec := fun ds K E => ds.length = n ∧ t E { nx := fun _ => K .non, rt := K } (startD N ds)
theorem rdS_mono {n : Nat} {t : (Exc → Prop) → TDS} {N : List Str} (h : ∀ E E' : Exc → Prop, (∀ x, E x → E' x) → RS (t E) (t E')) : SMono (rdS n t N) := fun ds K K' E E' hk he q =>
  ⟨q.1, h E E' he { nx := fun _ => K .non, rt := K } _ _ ⟨fun _ z => hk _ z, hk, fun _ z => z, fun _ z => z⟩ q.2⟩
end DL

set_option Elab.async false
set_option linter.all false
set_option maxRecDepth 100000
set_option maxHeartbeats 4000000
/-! DL28: the head's facts by Bool. -/
namespace DL
open PySem PySem.Spec PyProof.Rows L2 LamX
/-! ### an error class with its own __init__ -/
def oexB (K : PySem.W.Frag) (C : Addr) : Bool := (match K.lookup C with
  | some ⟨.type "type", _, .cls cd, sl⟩ => (match cd.mro, sl.toList with
    | .ref C' :: bm, [_, _, _, _, some (.builtin n), _] => C' == C && n == "ValueError.__new__" && !cd.hasDel && cd.hasDict && PySem.HandSPX.refsVE bm
    | _, _ => false)
  | _ => false) && (He.eqO (PySem.W.findIn K (.ref C) "__setattr__") (some (some (.builtin "object.__setattr__"))) && (decide (PySem.W.subIn K (.ref C) (.type "BaseException") = some true) && (decide (PySem.W.typeIn K (.ref C) = some (.type "type")) && PySem.W.keepIn K (.ref C))))
theorem oexB_ok {K : PySem.W.Frag} {C : Addr} (q : oexB K C = true) : OexC K C := by
  obtain ⟨q, q2⟩ := He.ba q
  obtain ⟨h1, q3⟩ := He.ba q2
  obtain ⟨h2, q4⟩ := He.ba q3
  obtain ⟨h3, h4⟩ := He.ba q4
  refine ⟨?_, He.eqO_ok h1, of_decide_eq_true h2, of_decide_eq_true h3, h4⟩
  split at q
  · rename_i dd cd sl ho
    split at q
    · rename_i C' bm k0 k1 k2 k3 n k5 hm hs
      simp only [Bool.and_eq_true, beq_iff_eq, Bool.not_eq_true'] at q
      obtain ⟨⟨⟨⟨rfl, rfl⟩, hdel⟩, hdi⟩, ht⟩ := q
      obtain ⟨nm, bs, mro, ns, qn, hd, sn, sub, ab, col, del⟩ := cd
      dsimp only at hm hdel hdi
      subst hm hdel hdi
      have hsl : sl = #[k0, k1, k2, k3, some (.builtin "ValueError.__new__"), k5] := by
        obtain ⟨l⟩ := sl
        simp only at hs
        rw [hs]
      subst hsl
      exact ⟨nm, qn, ns, bs, bm, sn, sub, ab, col, dd, k0, k1, k2, k3, k5, ho, ht⟩
    · cases q
  · cases q
def excB (K : PySem.W.Frag) (D : Addr) : Bool := He.eqO (PySem.W.findIn K (.ref D) "__getattribute__") (some (some (.builtin "BaseException.__getattribute__"))) && (He.eqO (PySem.W.findIn K (.ref D) "__getattr__") (some none) && (decide (PySem.W.subIn K (.ref D) (.type "BaseException") = some true) && (PySem.W.hasDictIn K D &&
  (He.eqO (PySem.W.findIn K (.ref D) "__class__") (some (some (.builtin "object.__class__"))) && (He.eqO (PySem.W.specialIn K (.builtin "object.__class__") "__get__") (some (some (.builtin "getset_descriptor.__get__"))) && (decide (PySem.W.takesIn K (.builtin "object.__class__") = some true) && decide (PySem.W.mroIn K D (.type "object") = some true)))))))
theorem excB_ok {K : PySem.W.Frag} {D : Addr} (q : excB K D = true) : ExcC K D := by
  obtain ⟨h1, q⟩ := He.ba q
  obtain ⟨h2, q⟩ := He.ba q
  obtain ⟨h3, q⟩ := He.ba q
  obtain ⟨h4, q⟩ := He.ba q
  obtain ⟨h5, q⟩ := He.ba q
  obtain ⟨h6, q⟩ := He.ba q
  obtain ⟨h7, h8⟩ := He.ba q
  exact ⟨He.eqO_ok h1, He.eqO_ok h2, of_decide_eq_true h3, h4, He.eqO_ok h5, He.eqO_ok h6, of_decide_eq_true h7, of_decide_eq_true h8⟩
/-- the errors, each with what is known of it -/
def xk1B (K : PySem.W.Frag) (x : Str) : Bool := excB K (He.ga K x) && ((PySem.W.clsIn K (He.ga K x)).isSome && ((XN.all fun n => decide (PySem.W.kitOne K (.ref (He.ga K x)) (.ref (He.ga K n)) = some (isaN x n))) && (decide (PySem.W.kitOne K (.ref (He.ga K x)) (.type "ValueError") = some true) &&
  ((XF.all fun f => He.eqO (PySem.W.findIn K (.ref (He.ga K x)) f) (some none)) && decide (PySem.W.exmOne K (.ref (He.ga K x)) (.ref (He.ga K "PowerError")) = some true)))))
theorem xallB_ok {K : PySem.W.Frag} {mg : Str → Option Value} (q : (XN.all (xk1B K)) = true) (hg : ∀ n ∈ XN, mg n = some (.ref (He.ga K n))) : XAll K mg := by
  intro x hx C hC
  have e := hC.symm.trans (hg x hx)
  cases e
  obtain ⟨h1, q⟩ := He.ba (List.all_eq_true.mp q x hx)
  obtain ⟨h2, q⟩ := He.ba q
  obtain ⟨h3, q⟩ := He.ba q
  obtain ⟨h4, q⟩ := He.ba q
  obtain ⟨h5, h6⟩ := He.ba q
  refine ⟨excB_ok h1, h2, fun n hn E hE => ?_, of_decide_eq_true h4, fun f hf => He.eqO_ok (List.all_eq_true.mp h5 f hf), fun E hE => ?_⟩
  · have e := hE.symm.trans (hg n hn)
    cases e
    exact of_decide_eq_true (List.all_eq_true.mp h3 n hn)
  · have e := hE.symm.trans (hg "PowerError" (by decide +kernel))
    cases e
    exact of_decide_eq_true h6
/-! ### a def without defaults -/
theorem fun_ofD {K : PySem.W.Frag} {x qual : Str} {st : Stmt} {f : Addr} {fd : FuncData} (F : FunD K x qual (defArgs st) (defBody st) (defScope st) [] [] f fd) : Fun K x qual st f fd := by
  obtain ⟨oc, od, dV, kV, doc, pm, an, cdv, ct, osl, e, lk, hcd, hd, hk⟩ := F.ex
  have h0 : dV = .none := by
    rcases hd with ⟨_, h⟩ | ⟨h, _⟩
    · exact h
    · exact absurd rfl h
  subst h0
  exact ⟨⟨oc, od, kV, doc, pm, an, cdv, ct, osl, e, lk, hcd⟩, F.kp⟩
end DL

set_option Elab.async false
set_option linter.all false
set_option maxRecDepth 100000
set_option maxHeartbeats 4000000
/-! DL29: readings by simp. -/
namespace DL
open PySem PySem.Spec PyProof.Rows L2 LamX
/-! ### how great an int may be -/
class Bn (n : outParam Nat) (i : Int) : Prop where
  h : i.natAbs < 2 ^ n
theorem Bn.le {n m : Nat} {i : Int} (b : Bn n i) (h : n ≤ m) : i.natAbs < 2 ^ m := Nat.lt_of_lt_of_le b.h (Nat.pow_le_pow_right (by decide) h)
instance bn_lit {k : Nat} : Bn (k.log2 + 1) (no_index (@OfNat.ofNat Int k _)) := ⟨Nat.lt_log2_self⟩
theorem bn_nat {k : Nat} : Bn (k.log2 + 1) (k : Int) := ⟨Nat.lt_log2_self⟩
instance bn_add {n m : Nat} {i j : Int} [a : Bn n i] [b : Bn m j] : Bn (n + m + 1) (i + j) := ⟨by
  have h1 := a.le (show n ≤ n + m by omega)
  have h2 := b.le (show m ≤ n + m by omega)
  rw [Nat.pow_succ]; omega⟩
instance bn_sub {n m : Nat} {i j : Int} [a : Bn n i] [b : Bn m j] : Bn (n + m + 1) (i - j) := ⟨by
  have h1 := a.le (show n ≤ n + m by omega)
  have h2 := b.le (show m ≤ n + m by omega)
  rw [Nat.pow_succ]; omega⟩
instance bn_neg {n : Nat} {i : Int} [a : Bn n i] : Bn n (-i) := ⟨by rw [Int.natAbs_neg]; exact a.h⟩
instance bn_mul {n m : Nat} {i j : Int} [a : Bn n i] [b : Bn m j] : Bn (n + m) (i * j) := ⟨by
  rw [Int.natAbs_mul, Nat.pow_add]
  exact Nat.mul_lt_mul'' a.h b.h⟩
instance bn_div {n : Nat} {i j : Int} [a : Bn n i] : Bn n (i / j) := ⟨Nat.lt_of_le_of_lt (Int.natAbs_ediv_le_natAbs i j) a.h⟩
instance bn_ite {n m : Nat} {i j : Int} {c : Prop} [Decidable c] [a : Bn n i] [b : Bn m j] : Bn (n + m) (if c then i else j) := ⟨by
  split
  · exact a.le (by omega)
  · exact b.le (by omega)⟩
theorem bn_of {n : Nat} {i : Int} (h1 : -(2 ^ n : Int) < i) (h2 : i < 2 ^ n) : Bn n i := ⟨by
  have e : ((2 ^ n : Nat) : Int) = (2 : Int) ^ n := by rw [Int.natCast_pow]; rfl
  omega⟩
theorem log2_of {n : Nat} {i : Int} (a : Bn n i) : i.natAbs.log2 ≤ n := by
  by_cases h : i.natAbs = 0
  · rw [h]; exact Nat.zero_le _
  · exact Nat.le_of_lt ((Nat.log2_lt h).mpr a.h)
theorem cmul_of {n m : Nat} {i j : Int} [a : Bn n i] [b : Bn m j] (h : n + m < 1000000) : CMulA i j := .inl (by
  have h1 := log2_of a
  have h2 := log2_of b
  show _ + _ < _; omega)
theorem cdiv_of {m : Nat} {i j : Int} [b : Bn m j] (h0 : 0 < j) (h : m < 9000) : CDivW i j := ⟨h0, by
  have h2 := log2_of b
  omega⟩

@[simp] theorem lg_0 : Nat.log2 0 = 0 := by decide +kernel
@[simp] theorem lg_1 : Nat.log2 1 = 0 := by decide +kernel
@[simp] theorem lg_2 : Nat.log2 2 = 1 := by decide +kernel
@[simp] theorem lg_3 : Nat.log2 3 = 1 := by decide +kernel
@[simp] theorem lg_4 : Nat.log2 4 = 2 := by decide +kernel
@[simp] theorem lg_5 : Nat.log2 5 = 2 := by decide +kernel
@[simp] theorem lg_6 : Nat.log2 6 = 2 := by decide +kernel
@[simp] theorem lg_7 : Nat.log2 7 = 2 := by decide +kernel
@[simp] theorem lg_8 : Nat.log2 8 = 3 := by decide +kernel
@[simp] theorem lg_9 : Nat.log2 9 = 3 := by decide +kernel
@[simp] theorem lg_10 : Nat.log2 10 = 3 := by decide +kernel
@[simp] theorem lg_11 : Nat.log2 11 = 3 := by decide +kernel
@[simp] theorem lg_12 : Nat.log2 12 = 3 := by decide +kernel
@[simp] theorem lg_13 : Nat.log2 13 = 3 := by decide +kernel
@[simp] theorem lg_14 : Nat.log2 14 = 3 := by decide +kernel
@[simp] theorem lg_15 : Nat.log2 15 = 3 := by decide +kernel
@[simp] theorem lg_16 : Nat.log2 16 = 4 := by decide +kernel
@[simp] theorem lg_17 : Nat.log2 17 = 4 := by decide +kernel
@[simp] theorem lg_18 : Nat.log2 18 = 4 := by decide +kernel
@[simp] theorem lg_19 : Nat.log2 19 = 4 := by decide +kernel
@[simp] theorem lg_20 : Nat.log2 20 = 4 := by decide +kernel
@[simp] theorem lg_21 : Nat.log2 21 = 4 := by decide +kernel
@[simp] theorem lg_22 : Nat.log2 22 = 4 := by decide +kernel
@[simp] theorem lg_23 : Nat.log2 23 = 4 := by decide +kernel
@[simp] theorem lg_24 : Nat.log2 24 = 4 := by decide +kernel
@[simp] theorem lg_25 : Nat.log2 25 = 4 := by decide +kernel
@[simp] theorem lg_26 : Nat.log2 26 = 4 := by decide +kernel
@[simp] theorem lg_27 : Nat.log2 27 = 4 := by decide +kernel
@[simp] theorem lg_28 : Nat.log2 28 = 4 := by decide +kernel
@[simp] theorem lg_29 : Nat.log2 29 = 4 := by decide +kernel
@[simp] theorem lg_30 : Nat.log2 30 = 4 := by decide +kernel
@[simp] theorem lg_31 : Nat.log2 31 = 4 := by decide +kernel
@[simp] theorem lg_32 : Nat.log2 32 = 5 := by decide +kernel
@[simp] theorem lg_35 : Nat.log2 35 = 5 := by decide +kernel
@[simp] theorem lg_40 : Nat.log2 40 = 5 := by decide +kernel
@[simp] theorem lg_41 : Nat.log2 41 = 5 := by decide +kernel
@[simp] theorem lg_47 : Nat.log2 47 = 5 := by decide +kernel
@[simp] theorem lg_48 : Nat.log2 48 = 5 := by decide +kernel
@[simp] theorem lg_50 : Nat.log2 50 = 5 := by decide +kernel
@[simp] theorem lg_60 : Nat.log2 60 = 5 := by decide +kernel
@[simp] theorem lg_61 : Nat.log2 61 = 5 := by decide +kernel
@[simp] theorem lg_64 : Nat.log2 64 = 6 := by decide +kernel
@[simp] theorem lg_100 : Nat.log2 100 = 6 := by decide +kernel
@[simp] theorem lg_101 : Nat.log2 101 = 6 := by decide +kernel
@[simp] theorem lg_120 : Nat.log2 120 = 6 := by decide +kernel
@[simp] theorem lg_200 : Nat.log2 200 = 7 := by decide +kernel
@[simp] theorem lg_300 : Nat.log2 300 = 8 := by decide +kernel
@[simp] theorem lg_400 : Nat.log2 400 = 8 := by decide +kernel
@[simp] theorem lg_1000 : Nat.log2 1000 = 9 := by decide +kernel
@[simp] theorem lg_2000 : Nat.log2 2000 = 10 := by decide +kernel
@[simp] theorem lg_10000 : Nat.log2 10000 = 13 := by decide +kernel
@[simp] theorem lg_1000000 : Nat.log2 1000000 = 19 := by decide +kernel
@[simp] theorem lg_1000000000 : Nat.log2 1000000000 = 29 := by decide +kernel
@[simp] theorem lg_1000000000000 : Nat.log2 1000000000000 = 39 := by decide +kernel
@[simp] theorem lg_1000000000000000000 : Nat.log2 1000000000000000000 = 59 := by decide +kernel
@[simp] theorem lg_1000000000000000000000000000000 : Nat.log2 1000000000000000000000000000000 = 99 := by decide +kernel
@[simp] theorem lg_10000000000000000000000000000000000000000 : Nat.log2 10000000000000000000000000000000000000000 = 132 := by decide +kernel
theorem Bn.up {n m : Nat} {i : Int} (b : Bn n i) (h : n ≤ m) : Bn m i := ⟨b.le h⟩
theorem sq_nn (a : Int) : 0 ≤ a * a := by
  rcases Int.le_total 0 a with h | h
  · exact Int.mul_nonneg h h
  · have e := Int.mul_nonneg (show 0 ≤ -a by omega) (show 0 ≤ -a by omega)
    rwa [Int.neg_mul_neg] at e
/-! ### readings, step by step -/
def sl : List Slot → Nat → Option Slot
  | [], _ => none
  | s :: _, 0 => some s
  | _ :: r, i + 1 => sl r i
theorem sl_eq : ∀ (δ : List Slot) (i : Nat), δ[i]? = sl δ i
  | [], _ => rfl
  | s :: _, 0 => rfl
  | _ :: r, i + 1 => sl_eq r i
@[simp] theorem sl_0 {s : Slot} {r : List Slot} : sl (s :: r) 0 = some s := (rfl)
@[simp] theorem sl_S {s : Slot} {r : List Slot} {i : Nat} : sl (s :: r) (i + 1) = sl r i := (rfl)
@[simp] theorem sl_n {i : Nat} : sl [] i = none := (rfl)
section
variable {t u v w : TD} {a : TDA} {c c2 : TDT} {tv : TDV} {g : TDG} {gs : TDGs} {s r : TDS} {i j l : Nat} {δ : List Slot} {K : D → Prop} {KA : List D → Prop} {KT : Bool → Prop} {KV : Slot → Prop} {KG : List Slot → Prop} {N : DEnds} {d e f : D} {ds es : List D}
@[simp] theorem w_seq : dSeq s r N δ = s { nx := r N, rt := N.rt, bk := N.bk, ct := N.ct } δ := (rfl)
@[simp] theorem w_next : dNext N δ = N.nx δ := (rfl)
@[simp] theorem w_break : dBreak N δ = N.bk δ := (rfl)
@[simp] theorem w_cont : dCont N δ = N.ct δ := (rfl)
@[simp] theorem w_drop : dDrop t N δ = t δ fun _ => N.nx δ := (rfl)
@[simp] theorem w_ret : dRet t N δ = t δ N.rt := (rfl)
@[simp] theorem w_retN : dRetN N δ = N.rt .non := (rfl)
@[simp] theorem w_ifS : dIfS c s r N δ = c δ fun b => if b = true then s N δ else r N δ := (rfl)
@[simp] theorem w_set : dSet i tv N δ = tv δ fun s => isS s = true ∧ N.nx (δ.set i s) := (rfl)
@[simp] theorem w_isS1 : isS (.val d) = true := (rfl)
@[simp] theorem w_isS2 : isS (.own ds) = true := (rfl)
@[simp] theorem w_isS3 {kv} : isS (.ownD kv) = true := (rfl)
@[simp] theorem w_asg : dAsg t g N δ = t δ fun d => g d δ N.nx := (rfl)
@[simp] theorem w_rl : dRl i s N δ = s N (relS δ i) := (rfl)
@[simp] theorem w_gName : dgName i d δ KG = KG (δ.set i (.val d)) := (rfl)
@[simp] theorem w_gNil : dgNil ds δ KG = (ds = [] ∧ KG δ) := (rfl)
@[simp] theorem w_gCons : dgCons g gs (d :: ds) δ KG = g d δ fun δ' => gs ds δ' KG := (rfl)
@[simp] theorem w_gTup {n : Nat} : dgTup n gs (.tup ds) δ KG = (ds.length = n ∧ gs ds δ KG) := (rfl)
@[simp] theorem w_var0 {δ : List Slot} : dVar 0 (.val d :: δ) K = K d := (rfl)
@[simp] theorem w_varS {s : Slot} {δ : List Slot} : dVar (i + 1) (s :: δ) K = dVar i δ K := (rfl)
theorem w_var : dVar i δ K = match sl δ i with | some (.val d) => K d | _ => False := by rw [← sl_eq]; rfl
@[simp] theorem w_c : dC d δ K = K d := (rfl)
@[simp] theorem w_op {k : D → D → (D → Prop) → Prop} : dOp k t u δ K = t δ fun x => u δ fun y => k x y K := (rfl)
@[simp] theorem w_nil : daNil δ KA = KA [] := (rfl)
@[simp] theorem w_cons : daCons t a δ KA = t δ fun d => a δ fun ds => KA (d :: ds) := (rfl)
@[simp] theorem w_tup : dTup a δ K = a δ fun ds => ds.length ≤ sizeLine ∧ K (.tup ds) := (rfl)
@[simp] theorem w_lst : dLst a δ K = a δ fun ds => ds.length ≤ sizeLine ∧ K (.lst ds) := (rfl)
@[simp] theorem w_call {S : Spec} {EX : List Slot → Exc → Prop} : dCall S EX a δ K = a δ fun ds => S ds K (EX δ) := (rfl)
@[simp] theorem w_b {k : List D → (D → Prop) → Prop} : dB k a δ K = a δ fun ds => k ds K := (rfl)
@[simp] theorem w_test : dTest t δ KT = t δ (Kb KT) := (rfl)
@[simp] theorem w_Kb {b : Bool} : Kb KT (.bl b) = KT b := (rfl)
@[simp] theorem w_tru : dTru t δ KT = t δ (Kt KT) := (rfl)
theorem Kt_of {b : Bool} (h : truD d = some b) : Kt KT d = KT b := propext ⟨fun ⟨x, e, q⟩ => by rw [h] at e; cases e; exact q, fun q => ⟨b, h, q⟩⟩
@[simp] theorem w_Kt1 {b : Bool} : Kt KT (.bl b) = KT b := Kt_of rfl
@[simp] theorem w_Kt2 {n : Int} : Kt KT (.int n) = KT (n != 0) := Kt_of rfl
@[simp] theorem w_Kt3 : Kt KT (.tup ds) = KT (!ds.isEmpty) := Kt_of rfl
@[simp] theorem w_Kt4 : Kt KT (.lst ds) = KT (!ds.isEmpty) := Kt_of rfl
@[simp] theorem w_Kt5 : Kt KT .non = KT false := Kt_of rfl
@[simp] theorem w_tAnd : dtAnd c c2 δ KT = c δ fun b => if b = true then c2 δ KT else KT false := (rfl)
@[simp] theorem w_tOr : dtOr c c2 δ KT = c δ fun b => if b = true then KT true else c2 δ KT := (rfl)
@[simp] theorem w_tNot : dtNot c δ KT = c δ fun b => KT (!b) := (rfl)
@[simp] theorem w_yes : dYes δ KT = KT true := (rfl)
@[simp] theorem w_and : dAnd t u δ K = t δ (Kb fun b => if b = true then u δ K else K (.bl false)) := (rfl)
@[simp] theorem w_or : dOr t u δ K = t δ (Kb fun b => if b = true then K (.bl true) else u δ K) := (rfl)
@[simp] theorem w_not : dNot c δ K = c δ fun b => K (.bl (!b)) := (rfl)
@[simp] theorem w_notV : dNotV t δ K = t δ (Kb fun b => K (.bl (!b))) := (rfl)
@[simp] theorem w_if : dIf c t u δ K = c δ fun b => if b = true then t δ K else u δ K := (rfl)
@[simp] theorem w_isi {f : D → Option Bool} : kIsi f t δ K = t δ fun d => ∃ r, f d = some r ∧ K (.bl r) := (rfl)
@[simp] theorem w_neg : dNeg t δ K = t δ fun d => kNeg d K := (rfl)
@[simp] theorem w_kNeg {n : Int} : kNeg (.int n) K = K (.int (-n)) := (rfl)
@[simp] theorem w_chain {k k' : D → D → (D → Prop) → Prop} : dChain k k' t u v δ K = t δ fun x => u δ fun y => k x y (Kb fun r => if r = true then v δ fun w => k' y w K else K (.bl false)) := (rfl)
@[simp] theorem w_ofV : dOfV tv δ K = tv δ (sD K) := (rfl)
@[simp] theorem w_sD1 : sD K (.val d) = K d := (rfl)
@[simp] theorem w_sD2 : sD K (.own ds) = K (.lst ds) := (rfl)
@[simp] theorem w_sD3 {kv} : sD K (.ownD kv) = K (.dct kv) := (rfl)
@[simp] theorem w_val : dVal t δ KV = t δ fun d => KV (.val d) := (rfl)
@[simp] theorem w_newL : dNewL a δ KV = a δ fun ds => ds.length ≤ sizeLine ∧ KV (.own ds) := (rfl)
@[simp] theorem w_newD : dNewD δ KV = KV (.ownD []) := (rfl)
@[simp] theorem w_lcV {ti : TDI} {vs : List Nat} : dLcV ti g c t vs δ KV = ti δ fun ds => lcT g c t (wipeD (δ.map hideS) vs) (fun acc => KV (.own acc)) ds [] := (rfl)
@[simp] theorem w_lcT0 {acc : List D} : lcT g c t δ KA [] acc = KA acc := (rfl)
@[simp] theorem w_lcT1 {acc : List D} : lcT g c t δ KA (d :: ds) acc = g d δ fun δ2 => c δ2 fun b => if b = true then t δ2 fun y => acc.length < sizeLine ∧ lcT g c t δ KA ds (acc ++ [y]) else lcT g c t δ KA ds acc := (rfl)
@[simp] theorem w_tiSeq : tiSeq t δ KA = t δ fun d => ∃ ds, itemsD d = some ds ∧ KA ds := (rfl)
@[simp] theorem w_items1 : itemsD (.lst ds) = some ds := (rfl)
@[simp] theorem w_items2 : itemsD (.tup ds) = some ds := (rfl)
@[simp] theorem w_tiR : tiR t δ KA = t δ fun d => match d with | .int n => -(2 ^ 62) ≤ n ∧ n < 2 ^ 62 ∧ KA (rangeD 0 n) | _ => False := (rfl)
@[simp] theorem w_tiR2 : tiR2 t u δ KA = t δ fun c => u δ fun d => match c, d with | .int m, .int n => (-(2 ^ 62) ≤ m ∧ m < 2 ^ 62 ∧ -(2 ^ 62) ≤ n ∧ n < 2 ^ 62) ∧ KA (rangeD m n) | _, _ => False := (rfl)
@[simp] theorem w_for : dFor t g s N δ = t δ fun d => ∃ ds, itemsD d = some ds ∧ turns g s N ds δ := (rfl)
@[simp] theorem w_forR : dForR t g s N δ = t δ fun d => match d with | .int n => -(2 ^ 62) ≤ n ∧ n < 2 ^ 62 ∧ turns g s N (rangeD 0 n) δ | _ => False := (rfl)
@[simp] theorem w_forR2 : dForR2 t u g s N δ = t δ fun c => u δ fun d => match c, d with | .int m, .int n => (-(2 ^ 62) ≤ m ∧ m < 2 ^ 62 ∧ -(2 ^ 62) ≤ n ∧ n < 2 ^ 62) ∧ turns g s N (rangeD m n) δ | _, _ => False := (rfl)
@[simp] theorem w_turns0 : turns g s N [] δ = N.nx δ := (rfl)
@[simp] theorem w_turns1 : turns g s N (d :: ds) δ = g d δ fun δ1 => s { nx := turns g s N ds, rt := N.rt, ct := turns g s N ds, bk := N.nx } δ1 := (rfl)
@[simp] theorem w_app : dApp i t N δ = match sl δ i with | some (.own ds) => t δ fun d => ds.length < sizeLine ∧ N.nx (δ.set i (.own (ds ++ [d]))) | _ => False := by rw [← sl_eq]; rfl
@[simp] theorem w_ext : dExt i t N δ = match sl δ i with | some (.own ds) => t δ (fun d => match d with | .lst es => ds.length + es.length ≤ sizeLine ∧ N.nx (δ.set i (.own (ds ++ es))) | _ => False) | _ => False := by rw [← sl_eq]; rfl
@[simp] theorem w_ixO : dIxO i t δ K = match sl δ i with | some (.own ds) => t δ (fun y => match y with | .int n => ∃ d, atI ds n = some d ∧ K d | _ => False) | _ => False := by rw [← sl_eq]; rfl
@[simp] theorem w_lenO : dLenO i δ K = match sl δ i with | some (.own ds) => K (.int ds.length) | _ => False := by rw [← sl_eq]; rfl
@[simp] theorem w_raise {x : Str} {fs : List Str} {EX : List Slot → Exc → Prop} : dRaise x fs EX a N δ = a δ fun ds => ds.length = fs.length ∧ ds.length ≤ 1000 ∧ EX δ ⟨x, fs.zip ds⟩ := (rfl)
@[simp] theorem w_raise0 {x : Str} {EX : List Slot → Exc → Prop} : dRaise0 x EX N δ = EX δ ⟨x, []⟩ := (rfl)
@[simp] theorem w_par : dPar i j a N δ = a δ fun ds => match ds with | [d, e] => N.nx ((δ.set i (.val d)).set j (.val e)) | _ => False := (rfl)
@[simp] theorem w_par3 : dPar3 i j l a N δ = a δ fun ds => match ds with | [d, e, f] => N.nx (((δ.set i (.val d)).set j (.val e)).set l (.val f)) | _ => False := (rfl)
@[simp] theorem w_lam {RK : (D → Prop) → Exc → Prop} {tb : (List Slot → Exc → Prop) → TD} : dLam RK tb δ K = tb (fun _ => RK K) (δ.map hideS) (fun _ => K .non) := (rfl)
@[simp] theorem w_callV {Γ : List (Str × Spec)} {EX : List Slot → Exc → Prop} : dCallV i Γ EX a δ K = match sl δ i with | some (.val (.fn x)) => ∃ S, (x, S) ∈ Γ ∧ a δ fun ds => S ds K (EX δ) | _ => False := by rw [← sl_eq]; rfl
@[simp] theorem w_hide1 : hideS (.val d) = .val d := (rfl)
@[simp] theorem w_hide2 : hideS .un = .un := (rfl)
@[simp] theorem w_hide3 : hideS (.own ds) = .un := (rfl)
@[simp] theorem w_hide4 {kv} : hideS (.ownD kv) = .un := (rfl)
@[simp] theorem w_wipe0 : wipeD δ [] = δ := (rfl)
@[simp] theorem w_wipe1 {x : Nat} {vs : List Nat} : wipeD δ (x :: vs) = (wipeD δ vs).set x .un := (rfl)
@[simp] theorem w_rel {i : Nat} : relS δ i = match sl δ i with | some (.own ds) => δ.set i (.val (.lst ds)) | some (.ownD ds) => δ.set i (.val (.dct ds)) | _ => δ := by rw [← sl_eq]; rfl
@[simp] theorem w_startD {Ns : List Str} : startD Ns ds = ds.map .val ++ List.replicate (Ns.length - ds.length) .un := (rfl)
@[simp] theorem w_rdS {n : Nat} {ts : (Exc → Prop) → TDS} {Ns : List Str} {E : Exc → Prop} : rdS n ts Ns ds K E = (ds.length = n ∧ ts E { nx := fun _ => K .non, rt := K } (startD Ns ds)) := (rfl)
/-! operators -/
section
variable {m n : Int}
@[simp] theorem k_add1 : kAdd (.int m) (.int n) K = K (.int (m + n)) := (rfl)
@[simp] theorem k_add2 {x y : Str} : kAdd (.str x) (.str y) K = (x.length + y.length ≤ sizeLine ∧ K (.str (x ++ y))) := (rfl)
@[simp] theorem k_add3 {x y : List D} : kAdd (.lst x) (.lst y) K = (x.length + y.length ≤ sizeLine ∧ K (.lst (x ++ y))) := (rfl)
@[simp] theorem k_add4 {x y : List D} : kAdd (.tup x) (.tup y) K = (x.length + y.length ≤ sizeLine ∧ K (.tup (x ++ y))) := (rfl)
@[simp] theorem k_I0 {f : Int → Int → D} : kI0 f (.int m) (.int n) K = K (f m n) := (rfl)
theorem k_I {C : Int → Int → Prop} {f : Int → Int → D} : kI C f (.int m) (.int n) K = (C m n ∧ K (f m n)) := rfl
theorem k_mulI : kMul (.int m) (.int n) K = (CMulA m n ∧ K (.int (m * n))) := rfl
@[simp] theorem k_mul {p q : Nat} [Bn p m] [Bn q n] (h : p + q < 1000000) : kMul (.int m) (.int n) K = K (.int (m * n)) := propext ⟨fun x => x.2, fun x => ⟨cmul_of h, x⟩⟩
@[simp] theorem k_mul_r (h : n.natAbs < 9223372036854775808) : kMul (.int m) (.int n) K = K (.int (m * n)) := propext ⟨fun x => x.2, fun x => ⟨mul_r h, x⟩⟩
@[simp] theorem k_mul_l (h : m.natAbs < 9223372036854775808) : kMul (.int m) (.int n) K = K (.int (m * n)) := propext ⟨fun x => x.2, fun x => ⟨mul_l h, x⟩⟩
@[simp] theorem k_mulL {x : List D} : kMul (.lst x) (.int n) K = (-(2 ^ 63) ≤ n ∧ n < 2 ^ 63 ∧ x.length * n.toNat ≤ sizeLine ∧ K (.lst (List.replicate n.toNat x).flatten)) := (rfl)
@[simp] theorem k_div {q : Nat} [Bn q n] (h0 : 0 < n) (h : q < 9000) : kFdiv (.int m) (.int n) K = K (.int (m / n)) := propext ⟨fun x => x.2, fun x => ⟨cdiv_of h0 h, x⟩⟩
@[simp] theorem k_mod (h0 : 0 < n) : kMod (.int m) (.int n) K = K (.int (m % n)) := propext ⟨fun x => x.2, fun x => ⟨h0, x⟩⟩
@[simp] theorem k_pow {p : Nat} [Bn p m] (h0 : 0 ≤ n) (h1 : n ≤ 1000000) (h2 : p ≤ 64) : kPow (.int m) (.int n) K = K (.int (m ^ n.toNat)) := propext ⟨fun x => x.2, fun x => ⟨⟨h0, h1, Bn.le ‹Bn p m› h2⟩, x⟩⟩
@[simp] theorem k_eqI : kEq (.int m) (.int n) K = K (.bl (decide (m = n))) := (rfl)
@[simp] theorem k_neI : kNe (.int m) (.int n) K = K (.bl (!decide (m = n))) := (rfl)
@[simp] theorem k_is {x y : D} : kIs x y K = ∃ b, isD x y = some b ∧ K (.bl b) := (rfl)
@[simp] theorem k_isN {x y : D} : kIsN x y K = ∃ b, isD x y = some b ∧ K (.bl (!b)) := (rfl)
@[simp] theorem k_in {x y : D} : kIn x y K = ∃ xs, itemsD y = some xs ∧ flatD x = true ∧ xs.all flatD = true ∧ K (.bl (inD x xs)) := (rfl)
@[simp] theorem k_notIn {x y : D} : kNotIn x y K = ∃ xs, itemsD y = some xs ∧ flatD x = true ∧ xs.all flatD = true ∧ K (.bl (!inD x xs)) := (rfl)
@[simp] theorem k_ix1 {xs : List D} : kIx (.lst xs) (.int n) K = ∃ d, atI xs n = some d ∧ K d := (rfl)
@[simp] theorem k_ix2 {xs : List D} : kIx (.tup xs) (.int n) K = ∃ d, atI xs n = some d ∧ K d := (rfl)
@[simp] theorem k_len1 {xs : List D} : kLen [.lst xs] K = K (.int xs.length) := (rfl)
@[simp] theorem k_len2 {xs : List D} : kLen [.tup xs] K = K (.int xs.length) := (rfl)
@[simp] theorem k_int1 : kInt1 [.int n] K = K (.int n) := (rfl)
@[simp] theorem k_int2 {b : Bool} : kInt1 [.bl b] K = K (.int (if b then 1 else 0)) := (rfl)
@[simp] theorem k_abs : kAbs [.int n] K = K (.int (if n < 0 then -n else n)) := (rfl)
@[simp] theorem k_list1 {xs : List D} : kList [.lst xs] K = K (.lst xs) := (rfl)
@[simp] theorem k_list2 {xs : List D} : kList [.tup xs] K = K (.lst xs) := (rfl)
@[simp] theorem k_tuple1 {xs : List D} : kTuple [.lst xs] K = K (.tup xs) := (rfl)
@[simp] theorem k_tuple2 {xs : List D} : kTuple [.tup xs] K = K (.tup xs) := (rfl)
@[simp] theorem k_max2 : kMax2 [.int m, .int n] K = K (.int (if n > m then n else m)) := (rfl)
@[simp] theorem k_min2 : kMin2 [.int m, .int n] K = K (.int (if n < m then n else m)) := (rfl)
@[simp] theorem k_gcd : kGcd [.int m, .int n] K = K (.int ((Nat.gcd m.natAbs n.natAbs : Nat) : Int)) := (rfl)
def blsOf : List D → Option (List Bool)
  | [] => some []
  | .bl b :: ds => (blsOf ds).map (b :: ·)
  | _ => none
theorem blsOf_map : ∀ {ds : List D} {bs : List Bool}, blsOf ds = some bs → ds = bs.map .bl
  | [], _, h => by cases h; rfl
  | d :: ds, bs, h => by
    cases d with
    | bl b =>
      unfold blsOf at h
      obtain ⟨cs, h1, h2⟩ := Option.map_eq_some_iff.mp h
      subst h2
      rw [blsOf_map h1]; rfl
    | _ => cases h
theorem blsOf_of : ∀ bs : List Bool, blsOf (bs.map .bl) = some bs
  | [] => rfl
  | b :: bs => by
    show (blsOf (bs.map .bl)).map (b :: ·) = _
    rw [blsOf_of bs]; rfl
theorem bl_inj {as bs : List Bool} (h : as.map D.bl = bs.map D.bl) : as = bs := by
  have e := blsOf_of as
  rw [h, blsOf_of bs] at e
  exact (Option.some.inj e).symm
@[simp] theorem k_all : kAll [.lst ds] K = ∃ bs, blsOf ds = some bs ∧ K (.bl (bs.all id)) := propext ⟨fun ⟨bs, e, q⟩ => ⟨bs, by
    have e1 : ds = bs.map .bl := D.lst.inj (List.cons.inj e).1
    rw [e1]; exact blsOf_of bs, q⟩, fun ⟨bs, e, q⟩ => ⟨bs, by rw [blsOf_map e], q⟩⟩
@[simp] theorem k_any : kAny [.lst ds] K = ∃ bs, blsOf ds = some bs ∧ K (.bl (bs.any id)) := propext ⟨fun ⟨bs, e, q⟩ => ⟨bs, by
    have e1 : ds = bs.map .bl := D.lst.inj (List.cons.inj e).1
    rw [e1]; exact blsOf_of bs, q⟩, fun ⟨bs, e, q⟩ => ⟨bs, by rw [blsOf_map e], q⟩⟩
@[simp] theorem w_bls0 : blsOf [] = some [] := (rfl)
@[simp] theorem w_bls1 {b : Bool} : blsOf (.bl b :: ds) = (blsOf ds).map (b :: ·) := (rfl)
def intsOf : List D → Option (List Int)
  | [] => some []
  | .int b :: ds => (intsOf ds).map (b :: ·)
  | _ => none
theorem intsOf_map : ∀ {ds : List D} {bs : List Int}, intsOf ds = some bs → ds = bs.map .int
  | [], _, h => by cases h; rfl
  | d :: ds, bs, h => by
    cases d with
    | int b =>
      unfold intsOf at h
      obtain ⟨cs, h1, h2⟩ := Option.map_eq_some_iff.mp h
      subst h2
      rw [intsOf_map h1]; rfl
    | _ => cases h
theorem intsOf_of : ∀ bs : List Int, intsOf (bs.map .int) = some bs
  | [] => rfl
  | b :: bs => by
    show (intsOf (bs.map .int)).map (b :: ·) = _
    rw [intsOf_of bs]; rfl
@[simp] theorem k_sum : kSum [.lst ds] K = ∃ bs, intsOf ds = some bs ∧ K (.int bs.sum) := propext ⟨fun ⟨bs, e, q⟩ => ⟨bs, by
    have e1 : ds = bs.map .int := D.lst.inj (List.cons.inj e).1
    rw [e1]; exact intsOf_of bs, q⟩, fun ⟨bs, e, q⟩ => ⟨bs, by rw [intsOf_map e], q⟩⟩
@[simp] theorem w_ints0 : intsOf [] = some [] := (rfl)
@[simp] theorem w_ints1 {b : Int} : intsOf (.int b :: ds) = (intsOf ds).map (b :: ·) := (rfl)
end
end
/-! ### isinstance, is, in -/
end DL

set_option Elab.async false
set_option linter.all false
set_option maxRecDepth 100000
set_option maxHeartbeats 4000000
/-! DL30: tests of kinds, equality, errors told: by simp. -/
namespace DL
open PySem PySem.Spec PyProof.Rows L2 LamX
@[simp] theorem w_isIntD_non : isIntD .non = some false := (rfl)
@[simp] theorem w_isIntD_bl {b : Bool} : isIntD (.bl b) = some true := (rfl)
@[simp] theorem w_isIntD_int {n : Int} : isIntD (.int n) = some true := (rfl)
@[simp] theorem w_isIntD_str {s : Str} : isIntD (.str s) = some false := (rfl)
@[simp] theorem w_isIntD_tup {ds : List D} : isIntD (.tup ds) = some false := (rfl)
@[simp] theorem w_isIntD_lst {ds : List D} : isIntD (.lst ds) = some false := (rfl)
@[simp] theorem w_isIntD_dct {kv : List (Key × D)} : isIntD (.dct kv) = some false := (rfl)
@[simp] theorem w_isBoolD_non : isBoolD .non = some false := (rfl)
@[simp] theorem w_isBoolD_bl {b : Bool} : isBoolD (.bl b) = some true := (rfl)
@[simp] theorem w_isBoolD_int {n : Int} : isBoolD (.int n) = some false := (rfl)
@[simp] theorem w_isBoolD_str {s : Str} : isBoolD (.str s) = some false := (rfl)
@[simp] theorem w_isBoolD_tup {ds : List D} : isBoolD (.tup ds) = some false := (rfl)
@[simp] theorem w_isBoolD_lst {ds : List D} : isBoolD (.lst ds) = some false := (rfl)
@[simp] theorem w_isBoolD_dct {kv : List (Key × D)} : isBoolD (.dct kv) = some false := (rfl)
@[simp] theorem w_isStrD_non : isStrD .non = some false := (rfl)
@[simp] theorem w_isStrD_bl {b : Bool} : isStrD (.bl b) = some false := (rfl)
@[simp] theorem w_isStrD_int {n : Int} : isStrD (.int n) = some false := (rfl)
@[simp] theorem w_isStrD_str {s : Str} : isStrD (.str s) = some true := (rfl)
@[simp] theorem w_isStrD_tup {ds : List D} : isStrD (.tup ds) = some false := (rfl)
@[simp] theorem w_isStrD_lst {ds : List D} : isStrD (.lst ds) = some false := (rfl)
@[simp] theorem w_isStrD_dct {kv : List (Key × D)} : isStrD (.dct kv) = some false := (rfl)
@[simp] theorem w_isTupD_non : isTupD .non = some false := (rfl)
@[simp] theorem w_isTupD_bl {b : Bool} : isTupD (.bl b) = some false := (rfl)
@[simp] theorem w_isTupD_int {n : Int} : isTupD (.int n) = some false := (rfl)
@[simp] theorem w_isTupD_str {s : Str} : isTupD (.str s) = some false := (rfl)
@[simp] theorem w_isTupD_tup {ds : List D} : isTupD (.tup ds) = some true := (rfl)
@[simp] theorem w_isTupD_lst {ds : List D} : isTupD (.lst ds) = some false := (rfl)
@[simp] theorem w_isTupD_dct {kv : List (Key × D)} : isTupD (.dct kv) = some false := (rfl)
@[simp] theorem w_isLstD_non : isLstD .non = some false := (rfl)
@[simp] theorem w_isLstD_bl {b : Bool} : isLstD (.bl b) = some false := (rfl)
@[simp] theorem w_isLstD_int {n : Int} : isLstD (.int n) = some false := (rfl)
@[simp] theorem w_isLstD_str {s : Str} : isLstD (.str s) = some false := (rfl)
@[simp] theorem w_isLstD_tup {ds : List D} : isLstD (.tup ds) = some false := (rfl)
@[simp] theorem w_isLstD_lst {ds : List D} : isLstD (.lst ds) = some true := (rfl)
@[simp] theorem w_isLstD_dct {kv : List (Key × D)} : isLstD (.dct kv) = some false := (rfl)
@[simp] theorem w_isDctD_non : isDctD .non = some false := (rfl)
@[simp] theorem w_isDctD_bl {b : Bool} : isDctD (.bl b) = some false := (rfl)
@[simp] theorem w_isDctD_int {n : Int} : isDctD (.int n) = some false := (rfl)
@[simp] theorem w_isDctD_str {s : Str} : isDctD (.str s) = some false := (rfl)
@[simp] theorem w_isDctD_tup {ds : List D} : isDctD (.tup ds) = some false := (rfl)
@[simp] theorem w_isDctD_lst {ds : List D} : isDctD (.lst ds) = some false := (rfl)
@[simp] theorem w_isDctD_dct {kv : List (Key × D)} : isDctD (.dct kv) = some true := (rfl)
@[simp] theorem w_isSeqD_non : isSeqD .non = some false := (rfl)
@[simp] theorem w_isSeqD_bl {b : Bool} : isSeqD (.bl b) = some false := (rfl)
@[simp] theorem w_isSeqD_int {n : Int} : isSeqD (.int n) = some false := (rfl)
@[simp] theorem w_isSeqD_str {s : Str} : isSeqD (.str s) = some false := (rfl)
@[simp] theorem w_isSeqD_tup {ds : List D} : isSeqD (.tup ds) = some true := (rfl)
@[simp] theorem w_isSeqD_lst {ds : List D} : isSeqD (.lst ds) = some true := (rfl)
@[simp] theorem w_isSeqD_dct {kv : List (Key × D)} : isSeqD (.dct kv) = some false := (rfl)
@[simp] theorem w_isN_non : isD .non .non = some true := (rfl)
@[simp] theorem w_isB_non {r : Bool} : isD .non (.bl r) = some false := (rfl)
@[simp] theorem w_flat_non : flatD .non = true := (rfl)
@[simp] theorem w_isN_bl {b : Bool} : isD (.bl b) .non = some false := (rfl)
@[simp] theorem w_isB_bl {a b : Bool} : isD (.bl a) (.bl b) = some (a == b) := (rfl)
@[simp] theorem w_flat_bl {b : Bool} : flatD (.bl b) = true := (rfl)
@[simp] theorem w_isN_int {n : Int} : isD (.int n) .non = some false := (rfl)
@[simp] theorem w_isB_int {n : Int} {r : Bool} : isD (.int n) (.bl r) = some false := (rfl)
@[simp] theorem w_flat_int {n : Int} : flatD (.int n) = true := (rfl)
@[simp] theorem w_isN_str {s : Str} : isD (.str s) .non = some false := (rfl)
@[simp] theorem w_isB_str {s : Str} {r : Bool} : isD (.str s) (.bl r) = some false := (rfl)
@[simp] theorem w_flat_str {s : Str} : flatD (.str s) = true := (rfl)
@[simp] theorem w_isN_tup {ds : List D} : isD (.tup ds) .non = some false := (rfl)
@[simp] theorem w_isB_tup {ds : List D} {r : Bool} : isD (.tup ds) (.bl r) = some false := (rfl)
@[simp] theorem w_flat_tup {ds : List D} : flatD (.tup ds) = false := (rfl)
@[simp] theorem w_isN_lst {ds : List D} : isD (.lst ds) .non = some false := (rfl)
@[simp] theorem w_isB_lst {ds : List D} {r : Bool} : isD (.lst ds) (.bl r) = some false := (rfl)
@[simp] theorem w_flat_lst {ds : List D} : flatD (.lst ds) = false := (rfl)
@[simp] theorem w_isN_dct {kv : List (Key × D)} : isD (.dct kv) .non = some false := (rfl)
@[simp] theorem w_isB_dct {kv : List (Key × D)} {r : Bool} : isD (.dct kv) (.bl r) = some false := (rfl)
@[simp] theorem w_flat_dct {kv : List (Key × D)} : flatD (.dct kv) = false := (rfl)
@[simp] theorem w_ef_non_non : eqDf .non .non = true := (rfl)
@[simp] theorem w_ef_non_bl {b2 : Bool} : eqDf .non (.bl b2) = false := (rfl)
@[simp] theorem w_ef_non_int {n2 : Int} : eqDf .non (.int n2) = false := (rfl)
@[simp] theorem w_ef_non_str {s2 : Str} : eqDf .non (.str s2) = false := (rfl)
@[simp] theorem w_ef_bl_non {b : Bool} : eqDf (.bl b) .non = false := (rfl)
@[simp] theorem w_ef_bl_bl {b : Bool} {b2 : Bool} : eqDf (.bl b) (.bl b2) = (b == b2) := (rfl)
@[simp] theorem w_ef_bl_int {b : Bool} {n2 : Int} : eqDf (.bl b) (.int n2) = ((if b then 1 else 0) == n2) := (rfl)
@[simp] theorem w_ef_bl_str {b : Bool} {s2 : Str} : eqDf (.bl b) (.str s2) = false := (rfl)
@[simp] theorem w_ef_int_non {n : Int} : eqDf (.int n) .non = false := (rfl)
@[simp] theorem w_ef_int_bl {n : Int} {b2 : Bool} : eqDf (.int n) (.bl b2) = (n == (if b2 then 1 else 0)) := (rfl)
@[simp] theorem w_ef_int_int {n : Int} {n2 : Int} : eqDf (.int n) (.int n2) = (n == n2) := (rfl)
@[simp] theorem w_ef_int_str {n : Int} {s2 : Str} : eqDf (.int n) (.str s2) = false := (rfl)
@[simp] theorem w_ef_str_non {s : Str} : eqDf (.str s) .non = false := (rfl)
@[simp] theorem w_ef_str_bl {s : Str} {b2 : Bool} : eqDf (.str s) (.bl b2) = false := (rfl)
@[simp] theorem w_ef_str_int {s : Str} {n2 : Int} : eqDf (.str s) (.int n2) = false := (rfl)
@[simp] theorem w_ef_str_str {s : Str} {s2 : Str} : eqDf (.str s) (.str s2) = (s == s2) := (rfl)
@[simp] theorem w_inD0 {d : D} : inD d [] = false := (rfl)
@[simp] theorem w_inD1 {d e : D} {ds : List D} : inD d (e :: ds) = (eqDf e d || inD d ds) := (rfl)
/-! ### places -/
@[simp] theorem at_0 {α : Type} {x : α} {xs : List α} : atI (x :: xs) 0 = some x := by
  have h : ixN (x :: xs).length 0 = some 0 := by
    unfold ixN
    rw [if_pos (by decide), if_pos (by rw [List.length_cons]; omega)]; rfl
  unfold atI; rw [h]; rfl
@[simp] theorem at_1 {α : Type} {x y : α} {xs : List α} : atI (x :: y :: xs) 1 = some y := by
  have h : ixN (x :: y :: xs).length 1 = some 1 := by
    unfold ixN
    rw [if_pos (by decide), if_pos (by rw [List.length_cons, List.length_cons]; omega)]; rfl
  unfold atI; rw [h]; rfl
@[simp] theorem at_2 {α : Type} {x y z : α} {xs : List α} : atI (x :: y :: z :: xs) 2 = some z := by
  have h : ixN (x :: y :: z :: xs).length 2 = some 2 := by
    unfold ixN
    rw [if_pos (by decide), if_pos (by rw [List.length_cons, List.length_cons, List.length_cons]; omega)]; rfl
  unfold atI; rw [h]; rfl
theorem at_nat {α : Type} {xs : List α} {n : Nat} : atI xs (n : Int) = xs[n]? := by
  unfold atI ixN
  rw [if_pos (by omega)]
  by_cases h : (n : Int) < xs.length
  · rw [if_pos h]; show xs[(n : Int).toNat]? = _; rw [Int.toNat_natCast]
  · rw [if_neg h]
    show none = _
    rw [List.getElem?_eq_none (by omega)]
theorem at_nn {α : Type} {xs : List α} {i : Int} (h : 0 ≤ i) : atI xs i = xs[i.toNat]? := by
  have e : i = (i.toNat : Int) := by omega
  rw [e, at_nat]; rfl
theorem at_last {α : Type} {x : α} {xs : List α} : atI (xs ++ [x]) (-1) = some x := by
  unfold atI ixN
  rw [if_neg (by decide), if_pos (by rw [List.length_append, List.length_singleton]; omega)]
  have e : (-1 + ((xs ++ [x]).length : Int)).toNat = xs.length := by rw [List.length_append, List.length_singleton]; omega
  show (xs ++ [x])[(-1 + ((xs ++ [x]).length : Int)).toNat]? = _
  rw [e, List.getElem?_append_right (Nat.le_refl _), Nat.sub_self]; rfl
@[simp] theorem at_m1_1 {α : Type} {x0 : α} : atI [x0] (-1) = some x0 := by rfl
@[simp] theorem at_m1_2 {α : Type} {x0 x1 : α} : atI [x0, x1] (-1) = some x1 := by rfl
@[simp] theorem at_m1_3 {α : Type} {x0 x1 x2 : α} : atI [x0, x1, x2] (-1) = some x2 := by rfl
@[simp] theorem at_m1_4 {α : Type} {x0 x1 x2 x3 : α} : atI [x0, x1, x2, x3] (-1) = some x3 := by rfl
@[simp] theorem at_m1_5 {α : Type} {x0 x1 x2 x3 x4 : α} : atI [x0, x1, x2, x3, x4] (-1) = some x4 := by rfl
@[simp] theorem at_m1_6 {α : Type} {x0 x1 x2 x3 x4 x5 : α} : atI [x0, x1, x2, x3, x4, x5] (-1) = some x5 := by rfl
@[simp] theorem at_m1_7 {α : Type} {x0 x1 x2 x3 x4 x5 x6 : α} : atI [x0, x1, x2, x3, x4, x5, x6] (-1) = some x6 := by rfl
@[simp] theorem at_3 {α : Type} {x y z u : α} {xs : List α} : atI (x :: y :: z :: u :: xs) 3 = some u := by
  rw [at_nn (by decide)]; rfl
@[simp] theorem at_4 {α : Type} {x y z u v : α} {xs : List α} : atI (x :: y :: z :: u :: v :: xs) 4 = some v := by
  rw [at_nn (by decide)]; rfl
@[simp] theorem rg_0 : rangeD 0 0 = [] := by rfl
@[simp] theorem rg_1 : rangeD 0 1 = [.int 0] := by rfl
@[simp] theorem rg_2 : rangeD 0 2 = [.int 0, .int 1] := by rfl
@[simp] theorem rg_3 : rangeD 0 3 = [.int 0, .int 1, .int 2] := by rfl
@[simp] theorem rg_4 : rangeD 0 4 = [.int 0, .int 1, .int 2, .int 3] := by rfl
@[simp] theorem rg_5 : rangeD 0 5 = [.int 0, .int 1, .int 2, .int 3, .int 4] := by rfl
@[simp] theorem rg_6 : rangeD 0 6 = [.int 0, .int 1, .int 2, .int 3, .int 4, .int 5] := by rfl
@[simp] theorem rg_7 : rangeD 0 7 = [.int 0, .int 1, .int 2, .int 3, .int 4, .int 5, .int 6] := by rfl
/-! ### equality -/
mutual
def okE : D → Bool
  | .non => true
  | .bl _ => true
  | .int _ => true
  | .str s => PyData.strOk s
  | .tup xs => okEs xs
  | .lst xs => okEs xs
  | _ => false
def okEs : List D → Bool
  | [] => true
  | d :: ds => okE d && okEs ds
end
mutual
def depE : D → Nat
  | .tup xs => depEs xs + 1
  | .lst xs => depEs xs + 1
  | _ => 0
def depEs : List D → Nat
  | [] => 0
  | d :: ds => max (depE d) (depEs ds)
end
mutual
def eqE : D → D → Bool
  | .non, .non => true
  | .bl a, .bl b => a == b
  | .bl a, .int j => (if a then 1 else 0) == j
  | .int i, .bl b => i == (if b then 1 else 0)
  | .int i, .int j => i == j
  | .str x, .str y => x == y
  | .lst xs, .lst ys => eqEs xs ys
  | .tup xs, .tup ys => eqEs xs ys
  | _, _ => false
def eqEs : List D → List D → Bool
  | [], [] => true
  | x :: xs, y :: ys => eqE x y && eqEs xs ys
  | _, _ => false
end
mutual
theorem toPy_ok : ∀ {d : D}, okE d = true → ∃ p, toPy d = some p ∧ p.canLay0 = true ∧ p.depth = depE d
  | .non, _ => ⟨_, by simp [toPy]; rfl, by simp [PyData.canLay0], by simp [PyData.depth, depE]⟩
  | .bl b, _ => ⟨_, by simp [toPy]; rfl, by simp [PyData.canLay0], by simp [PyData.depth, depE]⟩
  | .int b, _ => ⟨_, by simp [toPy]; rfl, by simp [PyData.canLay0], by simp [PyData.depth, depE]⟩
  | .str s, h => ⟨_, by simp [toPy]; rfl, by simpa [PyData.canLay0, okE] using h, by simp [PyData.depth, depE]⟩
  | .tup xs, h => by
    obtain ⟨ps, h1, h2, h3⟩ := toPys_ok (ds := xs) (by simpa [okE] using h)
    exact ⟨.tuple ps, by simp [toPy, h1], by simpa [PyData.canLay0] using h2, by simp [PyData.depth, depE, h3]⟩
  | .lst xs, h => by
    obtain ⟨ps, h1, h2, h3⟩ := toPys_ok (ds := xs) (by simpa [okE] using h)
    exact ⟨.list ps, by simp [toPy, h1], by simpa [PyData.canLay0] using h2, by simp [PyData.depth, depE, h3]⟩
  | .dct _, h => by simp [okE] at h
  | .obj _ _, h => by simp [okE] at h
  | .fn _, h => by simp [okE] at h
  | .pen, h => by simp [okE] at h
  | .ptr _, h => by simp [okE] at h
theorem toPys_ok : ∀ {ds : List D}, okEs ds = true → ∃ p, toPys ds = some p ∧ PyData.canLayAll0 p = true ∧ PyData.depthAll p = depEs ds
  | [], _ => ⟨[], by simp [toPys], by simp [PyData.canLayAll0], by simp [PyData.depthAll, depEs]⟩
  | d :: ds, h => by
    obtain ⟨h1, h2⟩ : okE d = true ∧ okEs ds = true := by simpa [okEs] using h
    obtain ⟨p, a1, a2, a3⟩ := toPy_ok h1
    obtain ⟨ps, b1, b2, b3⟩ := toPys_ok h2
    exact ⟨p :: ps, by simp [toPys, a1, b1], by simp [PyData.canLayAll0, a2, b2], by simp [PyData.depthAll, depEs, a3, b3]⟩
end
mutual
theorem eqE_of : ∀ {d e : D} {p q : PyData}, toPy d = some p → toPy e = some q → okE d = true → okE e = true → PyData.eqv p q = eqE d e
  | d, e, p, q, hd, he, kd, ke => by
    cases d with
    | tup xs =>
      obtain ⟨ps, a1, a2⟩ : ∃ ps, toPys xs = some ps ∧ PyData.tuple ps = p := by simpa [toPy] using hd
      subst a2
      cases e with
      | tup ys =>
        obtain ⟨qs, b1, b2⟩ : ∃ ps, toPys ys = some ps ∧ PyData.tuple ps = q := by simpa [toPy] using he
        subst b2
        simp only [PyData.eqv, eqE]
        exact eqEs_of a1 b1 (by simpa [okE] using kd) (by simpa [okE] using ke)
      | lst ys =>
        obtain ⟨qs, b1, b2⟩ : ∃ ps, toPys ys = some ps ∧ PyData.list ps = q := by simpa [toPy] using he
        subst b2
        simp [PyData.eqv, eqE]
      | _ => first | (simp [okE] at ke; done) | (simp [toPy] at he; subst he; simp [PyData.eqv, eqE])
    | lst xs =>
      obtain ⟨ps, a1, a2⟩ : ∃ ps, toPys xs = some ps ∧ PyData.list ps = p := by simpa [toPy] using hd
      subst a2
      cases e with
      | lst ys =>
        obtain ⟨qs, b1, b2⟩ : ∃ ps, toPys ys = some ps ∧ PyData.list ps = q := by simpa [toPy] using he
        subst b2
        simp only [PyData.eqv, eqE]
        exact eqEs_of a1 b1 (by simpa [okE] using kd) (by simpa [okE] using ke)
      | tup ys =>
        obtain ⟨qs, b1, b2⟩ : ∃ ps, toPys ys = some ps ∧ PyData.tuple ps = q := by simpa [toPy] using he
        subst b2
        simp [PyData.eqv, eqE]
      | _ => first | (simp [okE] at ke; done) | (simp [toPy] at he; subst he; simp [PyData.eqv, eqE])
    | _ =>
      first
        | (simp [okE] at kd; done)
        | (simp [toPy] at hd; subst hd
           cases e with
           | tup ys =>
             obtain ⟨qs, b1, b2⟩ : ∃ ps, toPys ys = some ps ∧ PyData.tuple ps = q := by simpa [toPy] using he
             subst b2
             simp [PyData.eqv, eqE]
           | lst ys =>
             obtain ⟨qs, b1, b2⟩ : ∃ ps, toPys ys = some ps ∧ PyData.list ps = q := by simpa [toPy] using he
             subst b2
             simp [PyData.eqv, eqE]
           | _ => first | (simp [okE] at ke; done) | (simp [toPy] at he; subst he; simp [PyData.eqv, eqE]))
theorem eqEs_of : ∀ {d e : List D} {p q : List PyData}, toPys d = some p → toPys e = some q → okEs d = true → okEs e = true → PyData.eqvAll p q = eqEs d e
  | [], [], p, q, hd, he, _, _ => by
    simp [toPys] at hd he; subst hd; subst he; simp [PyData.eqvAll, eqEs]
  | [], e :: es, p, q, hd, he, _, _ => by
    simp [toPys] at hd; subst hd
    obtain ⟨a, _, b, _, rfl⟩ : ∃ a, toPy e = some a ∧ ∃ b, toPys es = some b ∧ a :: b = q := by simpa [toPys, Option.bind_eq_some_iff] using he
    simp [PyData.eqvAll, eqEs]
  | d :: ds, [], p, q, hd, he, _, _ => by
    simp [toPys] at he; subst he
    obtain ⟨a, _, b, _, rfl⟩ : ∃ a, toPy d = some a ∧ ∃ b, toPys ds = some b ∧ a :: b = p := by simpa [toPys, Option.bind_eq_some_iff] using hd
    simp [PyData.eqvAll, eqEs]
  | d :: ds, e :: es, p, q, hd, he, kd, ke => by
    obtain ⟨a, a1, b, b1, rfl⟩ : ∃ a, toPy d = some a ∧ ∃ b, toPys ds = some b ∧ a :: b = p := by simpa [toPys, Option.bind_eq_some_iff] using hd
    obtain ⟨a', a2, b', b2, rfl⟩ : ∃ a, toPy e = some a ∧ ∃ b, toPys es = some b ∧ a :: b = q := by simpa [toPys, Option.bind_eq_some_iff] using he
    obtain ⟨k1, k2⟩ : okE d = true ∧ okEs ds = true := by simpa [okEs] using kd
    obtain ⟨k3, k4⟩ : okE e = true ∧ okEs es = true := by simpa [okEs] using ke
    simp only [PyData.eqvAll, eqEs]
    rw [eqE_of a1 a2 k1 k3, eqEs_of b1 b2 k2 k4]
end
theorem eqP_ok {x y : D} {K : Bool → Prop} (h1 : okE x = true) (h2 : okE y = true) (d1 : depE x ≤ 64) (d2 : depE y ≤ 64) : eqP x y K = K (eqE x y) := by
  obtain ⟨p, a1, a2, a3⟩ := toPy_ok h1
  obtain ⟨q, b1, b2, b3⟩ := toPy_ok h2
  have s1 : SeqAt.shaped p = true := by unfold SeqAt.shaped; rw [a2, a3]; simpa using d1
  have s2 : SeqAt.shaped q = true := by unfold SeqAt.shaped; rw [b2, b3]; simpa using d2
  have e := eqE_of a1 b1 h1 h2
  refine propext ⟨fun ⟨p', q', e1, e2, _, _, k⟩ => ?_, fun k => ⟨p, q, a1, b1, s1, s2, by rw [e]; exact k⟩⟩
  rw [a1] at e1; rw [b1] at e2; cases e1; cases e2
  rw [e] at k; exact k
theorem eqP_int' {m n : Int} {K : Bool → Prop} : eqP (.int m) (.int n) K = K (decide (m = n)) := by
  rw [eqP_ok (by simp [okE]) (by simp [okE]) (by simp [depE]) (by simp [depE])]
  simp only [eqE]; rfl
@[simp] theorem k_eq {x y : D} {K : D → Prop} (h1 : okE x = true) (h2 : okE y = true) (d1 : depE x ≤ 64) (d2 : depE y ≤ 64) : kEq x y K = K (.bl (eqE x y)) := by
  have e := eqP_ok (K := fun b => K (.bl b)) h1 h2 d1 d2
  cases x with
  | int i => cases y with
    | int j => simp only [k_eqI, eqE]; rfl
    | _ => exact e
  | _ => exact e
@[simp] theorem k_ne {x y : D} {K : D → Prop} (h1 : okE x = true) (h2 : okE y = true) (d1 : depE x ≤ 64) (d2 : depE y ≤ 64) : kNe x y K = K (.bl (!eqE x y)) := by
  have e := eqP_ok (K := fun b => K (.bl (!b))) h1 h2 d1 d2
  cases x with
  | int i => cases y with
    | int j => simp only [k_neI, eqE]; rfl
    | _ => exact e
  | _ => exact e
mutual
theorem eqE_refl : ∀ {d : D}, okE d = true → eqE d d = true
  | .non, _ => by simp [eqE]
  | .bl b, _ => by simp [eqE]
  | .int b, _ => by simp [eqE]
  | .str s, h => by simp [eqE]
  | .tup xs, h => by simp only [eqE]; exact eqEs_refl (by simpa [okE] using h)
  | .lst xs, h => by simp only [eqE]; exact eqEs_refl (by simpa [okE] using h)
  | .dct _, h => by simp [okE] at h
  | .obj _ _, h => by simp [okE] at h
  | .fn _, h => by simp [okE] at h
  | .pen, h => by simp [okE] at h
  | .ptr _, h => by simp [okE] at h
theorem eqEs_refl : ∀ {ds : List D}, okEs ds = true → eqEs ds ds = true
  | [], _ => by simp [eqEs]
  | d :: ds, h => by
    obtain ⟨h1, h2⟩ : okE d = true ∧ okEs ds = true := by simpa [okEs] using h
    simp only [eqEs, eqE_refl h1, eqEs_refl h2, Bool.and_self]
end
@[simp] theorem okE_non : okE .non = true := by simp [okE]
@[simp] theorem okE_bl {b : Bool} : okE (.bl b) = true := by simp [okE]
@[simp] theorem okE_int {n : Int} : okE (.int n) = true := by simp [okE]
@[simp] theorem okE_str {s : Str} : okE (.str s) = PyData.strOk s := by simp [okE]
@[simp] theorem okE_tup {xs : List D} : okE (.tup xs) = okEs xs := by simp [okE]
@[simp] theorem okE_lst {xs : List D} : okE (.lst xs) = okEs xs := by simp [okE]
@[simp] theorem okEs_nil : okEs [] = true := by simp [okEs]
@[simp] theorem okEs_cons {x : D} {xs : List D} : okEs (x :: xs) = (okE x && okEs xs) := by simp [okEs]
@[simp] theorem depE_non : depE .non = 0 := by simp [depE]
@[simp] theorem depE_bl {b : Bool} : depE (.bl b) = 0 := by simp [depE]
@[simp] theorem depE_int {n : Int} : depE (.int n) = 0 := by simp [depE]
@[simp] theorem depE_str {s : Str} : depE (.str s) = 0 := by simp [depE]
@[simp] theorem depE_tup {xs : List D} : depE (.tup xs) = depEs xs + 1 := by simp [depE]
@[simp] theorem depE_lst {xs : List D} : depE (.lst xs) = depEs xs + 1 := by simp [depE]
@[simp] theorem depEs_nil : depEs [] = 0 := by simp [depEs]
@[simp] theorem depEs_cons {x : D} {xs : List D} : depEs (x :: xs) = max (depE x) (depEs xs) := by simp [depEs]
@[simp] theorem eqE_tup {xs ys : List D} : eqE (.tup xs) (.tup ys) = eqEs xs ys := by simp [eqE]
@[simp] theorem eqE_lst {xs ys : List D} : eqE (.lst xs) (.lst ys) = eqEs xs ys := by simp [eqE]
@[simp] theorem eqE_int {m n : Int} : eqE (.int m) (.int n) = (m == n) := by simp [eqE]
@[simp] theorem eqE_str {x y : Str} : eqE (.str x) (.str y) = (x == y) := by simp [eqE]
@[simp] theorem eqE_bl {x y : Bool} : eqE (.bl x) (.bl y) = (x == y) := by simp [eqE]
@[simp] theorem eqE_non : eqE .non .non = true := by simp [eqE]
@[simp] theorem eqE_nn {n : Int} : eqE .non (.int n) = false := by simp [eqE]
@[simp] theorem eqE_tn {xs : List D} : eqE (.tup xs) .non = false := by simp [eqE]
@[simp] theorem eqE_nt {xs : List D} : eqE .non (.tup xs) = false := by simp [eqE]
@[simp] theorem eqEs_nil : eqEs [] [] = true := by simp [eqEs]
@[simp] theorem eqEs_cons {x y : D} {xs ys : List D} : eqEs (x :: xs) (y :: ys) = (eqE x y && eqEs xs ys) := by simp [eqEs]
@[simp] theorem eqEs_nc {y : D} {ys : List D} : eqEs [] (y :: ys) = false := by simp [eqEs]
@[simp] theorem eqEs_cn {y : D} {ys : List D} : eqEs (y :: ys) [] = false := by simp [eqEs]
@[simp] theorem le_sl {n : Nat} (h : n ≤ 1000000) : (n ≤ sizeLine) = True := eq_true (Nat.le_trans h (by decide))
@[simp] theorem lt_sl {n : Nat} (h : n ≤ 1000000) : (n < sizeLine) = True := eq_true (Nat.lt_of_le_of_lt h (by decide))
/-! ### errors told -/
theorem x_BadNumber : ("BadNumber" : Str) ∈ XN := by decide +kernel
theorem x_BadRow : ("BadRow" : Str) ∈ XN := by decide +kernel
theorem x_BadTable : ("BadTable" : Str) ∈ XN := by decide +kernel
theorem x_BadBook : ("BadBook" : Str) ∈ XN := by decide +kernel
theorem x_BadName : ("BadName" : Str) ∈ XN := by decide +kernel
theorem x_BadText : ("BadText" : Str) ∈ XN := by decide +kernel
theorem x_NoPlace : ("NoPlace" : Str) ∈ XN := by decide +kernel
theorem x_NoName : ("NoName" : Str) ∈ XN := by decide +kernel
theorem x_TakenName : ("TakenName" : Str) ∈ XN := by decide +kernel
theorem x_Unlike : ("Unlike" : Str) ∈ XN := by decide +kernel
theorem x_NotThere : ("NotThere" : Str) ∈ XN := by decide +kernel
theorem x_TooMany : ("TooMany" : Str) ∈ XN := by decide +kernel
theorem x_NotKept : ("NotKept" : Str) ∈ XN := by decide +kernel
theorem x_NothingToUndo : ("NothingToUndo" : Str) ∈ XN := by decide +kernel
theorem x_NothingToRedo : ("NothingToRedo" : Str) ∈ XN := by decide +kernel
section
variable {K : D → Prop} {a b c : D}
@[simp] theorem rk_BadNumber : RKf K ⟨"BadNumber", [("what", a), ("number", b)]⟩ = ∃ s, shownOf b = some s ∧ K (.tup [.str "number", a, .str s]) := by
  unfold RKf
  rw [kd_BadNumber rfl]
  refine propext ⟨fun ⟨_, d, e, q⟩ => ?_, fun ⟨s, e, q⟩ => ⟨x_BadNumber, _, ?_, q⟩⟩
  · obtain ⟨s, e1, e2⟩ : ∃ s, shownOf b = some s ∧ D.tup [.str "number", a, .str s] = d := by
      have e3 : (shownOf b).map (fun s => D.tup [.str "number", a, .str s]) = some d := e
      exact Option.map_eq_some_iff.mp e3
    subst e2; exact ⟨s, e1, q⟩
  · show (shownOf b).map (fun s => D.tup [.str "number", a, .str s]) = _
    rw [e]; rfl
@[simp] theorem rk_BadRow : RKf K ⟨"BadRow", [("what", a), ("row", b)]⟩ = ∃ s, shownOf b = some s ∧ K (.tup [.str "row", a, .str s]) := by
  unfold RKf
  rw [kd_BadRow rfl]
  refine propext ⟨fun ⟨_, d, e, q⟩ => ?_, fun ⟨s, e, q⟩ => ⟨x_BadRow, _, ?_, q⟩⟩
  · obtain ⟨s, e1, e2⟩ : ∃ s, shownOf b = some s ∧ D.tup [.str "row", a, .str s] = d := by
      have e3 : (shownOf b).map (fun s => D.tup [.str "row", a, .str s]) = some d := e
      exact Option.map_eq_some_iff.mp e3
    subst e2; exact ⟨s, e1, q⟩
  · show (shownOf b).map (fun s => D.tup [.str "row", a, .str s]) = _
    rw [e]; rfl
@[simp] theorem rk_Unlike : RKf K ⟨"Unlike", [("what", a)]⟩ = K (.tup [.str "unlike", a]) := by
  unfold RKf
  rw [kd_Unlike rfl]
  exact propext ⟨fun ⟨_, d, e, q⟩ => by cases e; exact q, fun q => ⟨x_Unlike, _, rfl, q⟩⟩
end
end DL

set_option Elab.async false
set_option linter.all false
set_option maxRecDepth 100000
set_option maxHeartbeats 4000000
/-! DL31: comprehensions, draws. -/
namespace DL
open PySem PySem.Spec PyProof.Rows L2 LamX
/-- a comprehension whose parts are functions of the item -/
theorem lcT_map {tg : TDG} {tt : TDT} {te : TD} {δ : List Slot} {K : List D → Prop} {f : D → Bool} {h : D → D} : ∀ {its acc : List D},
    (∀ d ∈ its, ∃ δ2, (∀ KG, tg d δ KG = KG δ2) ∧ (∀ KT, tt δ2 KT = KT (f d)) ∧ (f d = true → ∀ K, te δ2 K = K (h d))) → acc.length + its.length ≤ 1000000 → lcT tg tt te δ K its acc = K (acc ++ (its.filter f).map h)
  | [], acc, _, _ => by simp
  | d :: its, acc, hs, hl => by
    obtain ⟨δ2, h1, h2, h3⟩ := hs d List.mem_cons_self
    rw [w_lcT1, h1, h2]
    have ih := fun acc (hl : acc.length + its.length ≤ 1000000) => lcT_map (K := K) (tg := tg) (tt := tt) (te := te) (δ := δ) (f := f) (h := h) (its := its) (acc := acc) (fun d hd => hs d (List.mem_cons_of_mem _ hd)) hl
    rw [List.length_cons] at hl
    cases hf : f d with
    | true =>
      rw [if_pos rfl, h3 hf, ih _ (by rw [List.length_append, List.length_singleton]; omega), lt_sl (by omega), true_and, List.filter_cons_of_pos hf, List.map_cons, List.append_assoc]
      rfl
    | false =>
      rw [if_neg (by simp), ih _ (by omega), List.filter_cons_of_neg (by simp [hf])]
theorem p_draw {m : Int} {K : D → Prop} {E : Exc → Prop} (h0 : 0 < m) (h1 : m < 1000000000) : specDraw [.pen, .int m] K E = ∀ r, 0 ≤ r → r < m → K (.int r) := by
  unfold specDraw SX
  refine propext ⟨fun ⟨a, e, p, q, _⟩ r r0 r1 => ?_, fun q => ⟨m, rfl, ⟨h0, h1⟩, fun d ⟨r, r0, r1, e⟩ => by rw [e]; exact q r r0 r1, fun _ h => h.elim⟩⟩
  have e1 : m = a := by
    have e2 := (List.cons.inj (List.cons.inj e).2).1
    exact D.int.inj e2
  subst e1
  exact q _ ⟨r, r0, r1, rfl⟩
theorem at_lt {α : Type} {xs : List α} {i : Int} (h0 : 0 ≤ i) (h1 : i < xs.length) : ∃ x, atI xs i = some x ∧ x ∈ xs := by
  rw [at_nn h0]
  have h : i.toNat < xs.length := by omega
  exact ⟨xs[i.toNat], List.getElem?_eq_getElem h, List.getElem_mem h⟩
theorem rangeD_mem {a b : Int} {d : D} (h : d ∈ rangeD a b) : ∃ i : Nat, d = .int (a + i) ∧ a + i < b := by
  unfold rangeD at h
  obtain ⟨i, h1, h2⟩ := List.mem_map.mp h
  rw [List.mem_range] at h1
  exact ⟨i, h2.symm, by omega⟩
@[simp] theorem rangeD_len {a b : Int} : (rangeD a b).length = (b - a).toNat := by simp [rangeD]
/-! ### data that _law_is compares -/
mutual
def isE : D → D → Bool
  | e, .tup ds => match e with
    | .tup es => es.length == ds.length && isEs es ds
    | _ => false
  | e, .non => dIsNon e
  | e, .bl b => match e with
    | .bl c => c == b
    | _ => false
  | e, .str s => match e with
    | .str t => t == s
    | _ => false
  | e, .int n => match e with
    | .int m => m == n
    | _ => false
  | _, _ => false
def isEs : List D → List D → Bool
  | e :: es, d :: ds => isE e d && isEs es ds
  | _, _ => true
end
/-! what _law_is may be told as due: tuples, ints, texts, bools, None -/
mutual
def dueD : D → Bool
  | .non => true
  | .bl _ => true
  | .int _ => true
  | .str s => PyData.strOk s
  | .tup ds => decide (ds.length ≤ 100000) && dueDs ds
  | _ => false
def dueDs : List D → Bool
  | [] => true
  | d :: ds => dueD d && dueDs ds
end
/-! what it may be shown -/
mutual
def tameD : D → Bool
  | .non => true
  | .bl _ => true
  | .int _ => true
  | .str s => PyData.strOk s
  | .tup ds => tameDs ds
  | .lst _ => true
  | .dct _ => true
  | _ => false
def tameDs : List D → Bool
  | [] => true
  | d :: ds => tameD d && tameDs ds
end
theorem dueDs_get : ∀ {ds : List D} {i : Nat} {d : D}, dueDs ds = true → ds[i]? = some d → dueD d = true
  | d :: ds, 0, e, h, q => by
    simp [dueDs] at h; simp at q; subst q; exact h.1
  | d :: ds, i + 1, e, h, q => by
    simp [dueDs] at h; exact dueDs_get h.2 (by simpa using q)
theorem tameDs_get : ∀ {ds : List D} {i : Nat} {d : D}, tameDs ds = true → ds[i]? = some d → tameD d = true
  | d :: ds, 0, e, h, q => by
    simp [tameDs] at h; simp at q; subst q; exact h.1
  | d :: ds, i + 1, e, h, q => by
    simp [tameDs] at h; exact tameDs_get h.2 (by simpa using q)
theorem depEs_get : ∀ {ds : List D} {i : Nat} {d : D}, ds[i]? = some d → depE d ≤ depEs ds
  | d :: ds, 0, e, q => by simp at q; subst q; simp [depEs]; omega
  | d :: ds, i + 1, e, q => by
    have h := depEs_get (ds := ds) (i := i) (d := e) (by simpa using q)
    simp [depEs]; omega
theorem isEs_range : ∀ {es ds : List D}, es.length = ds.length → ∀ (f : Nat → Bool), (∀ i e d, es[i]? = some e → ds[i]? = some d → f i = !isE e d) → (((List.range ds.length).filter f) = [] ↔ isEs es ds = true) := by
  intro es ds hl f hf
  rw [List.filter_eq_nil_iff]
  induction ds generalizing es f with
  | nil =>
    cases es with
    | nil => simp [isEs]
    | cons _ _ => simp at hl
  | cons d ds ih =>
    cases es with
    | nil => simp at hl
    | cons e es =>
      have ih2 := ih (es := es) (by simpa using hl) (fun i => f (i + 1)) (fun i e' d' h1 h2 => hf (i + 1) e' d' (by simpa using h1) (by simpa using h2))
      have h0 := hf 0 e d rfl rfl
      simp only [isEs, Bool.and_eq_true, ← ih2]
      constructor
      · intro h
        refine ⟨?_, fun a ha => h (a + 1) (by simp at ha ⊢; omega)⟩
        have h1 := h 0 (by simp)
        rw [h0] at h1
        simpa using h1
      · intro ⟨h1, h2⟩ a ha
        cases a with
        | zero => rw [h0, h1]; simp
        | succ a => exact h2 a (by simp at ha ⊢; omega)
theorem okEs_nat : ∀ l : List Nat, okEs (l.map fun i : Nat => D.int (i : Int)) = true
  | [] => by simp
  | i :: l => by simp [okEs_nat l]
theorem depEs_nat : ∀ l : List Nat, depEs (l.map fun i : Nat => D.int (i : Int)) = 0
  | [] => by simp
  | i :: l => by simp [depEs_nat l]
theorem kEq_nil {l : List Nat} {K : D → Prop} : kEq (.lst (l.map fun i : Nat => D.int (i : Int))) (.lst []) K = K (.bl (decide (l = []))) := by
  rw [k_eq (by simp [okEs_nat]) (by simp) (by simp [depEs_nat]) (by simp)]
  cases l <;> simp
mutual
theorem isE_refl : ∀ {d : D}, dueD d = true → isE d d = true
  | .non, _ => by simp [isE, dIsNon]
  | .bl b, _ => by simp [isE]
  | .int b, _ => by simp [isE]
  | .str s, h => by simp [isE]
  | .tup xs, h => by
    simp [dueD] at h
    simp [isE, isEs_refl h.2]
  | .lst xs, h => by simp [dueD] at h
  | .dct _, h => by simp [dueD] at h
  | .obj _ _, h => by simp [dueD] at h
  | .fn _, h => by simp [dueD] at h
  | .pen, h => by simp [dueD] at h
  | .ptr _, h => by simp [dueD] at h
theorem isEs_refl : ∀ {ds : List D}, dueDs ds = true → isEs ds ds = true
  | [], _ => by simp [isEs]
  | d :: ds, h => by
    simp [dueDs] at h
    simp [isEs, isE_refl h.1, isEs_refl h.2]
end
@[simp] theorem due_non : dueD .non = true := by simp [dueD]
@[simp] theorem due_bl {b : Bool} : dueD (.bl b) = true := by simp [dueD]
@[simp] theorem due_int {n : Int} : dueD (.int n) = true := by simp [dueD]
@[simp] theorem due_str {s : Str} : dueD (.str s) = PyData.strOk s := by simp [dueD]
@[simp] theorem due_tup {xs : List D} : dueD (.tup xs) = (decide (xs.length ≤ 100000) && dueDs xs) := by simp [dueD]
@[simp] theorem dues_nil : dueDs [] = true := by simp [dueDs]
@[simp] theorem dues_cons {x : D} {xs : List D} : dueDs (x :: xs) = (dueD x && dueDs xs) := by simp [dueDs]
@[simp] theorem tame_non : tameD .non = true := by simp [tameD]
@[simp] theorem tame_bl {b : Bool} : tameD (.bl b) = true := by simp [tameD]
@[simp] theorem tame_int {n : Int} : tameD (.int n) = true := by simp [tameD]
@[simp] theorem tame_str {s : Str} : tameD (.str s) = PyData.strOk s := by simp [tameD]
@[simp] theorem tame_tup {xs : List D} : tameD (.tup xs) = tameDs xs := by simp [tameD]
@[simp] theorem tame_lst {xs : List D} : tameD (.lst xs) = true := by simp [tameD]
@[simp] theorem tame_dct {xs} : tameD (.dct xs) = true := by simp [tameD]
@[simp] theorem tames_nil : tameDs [] = true := by simp [tameDs]
@[simp] theorem tames_cons {x : D} {xs : List D} : tameDs (x :: xs) = (tameD x && tameDs xs) := by simp [tameDs]
@[simp] theorem isE_int {m n : Int} : isE (.int m) (.int n) = (m == n) := by simp [isE]
@[simp] theorem isE_tup {xs ys : List D} : isE (.tup xs) (.tup ys) = (xs.length == ys.length && isEs xs ys) := by simp [isE]
@[simp] theorem isEs_cons {x y : D} {xs ys : List D} : isEs (x :: xs) (y :: ys) = (isE x y && isEs xs ys) := by simp [isEs]
@[simp] theorem isEs_nil : isEs [] [] = true := by simp [isEs]
@[simp] theorem isE_non {x : D} : isE x .non = dIsNon x := by simp [isE]
@[simp] theorem dIsNon_non : dIsNon .non = true := (rfl)
@[simp] theorem dIsNon_int {n : Int} : dIsNon (.int n) = false := (rfl)
@[simp] theorem dIsNon_tup {xs : List D} : dIsNon (.tup xs) = false := (rfl)
/-- [at for at in range(n) if test] -/
theorem lcT_range {tg : TDG} {tt : TDT} {te : TD} {δ : List Slot} {K : List D → Prop} {n : Nat} {f : Nat → Bool} (hn : n ≤ 1000000)
    (hs : ∀ i, i < n → ∃ δ2, (∀ KG, tg (.int i) δ KG = KG δ2) ∧ (∀ KT, tt δ2 KT = KT (f i)) ∧ (f i = true → ∀ K, te δ2 K = K (.int i))) :
    lcT tg tt te δ K (rangeD 0 n) [] = K (((List.range n).filter f).map fun i : Nat => D.int (i : Int)) := by
  have e : rangeD 0 n = (List.range n).map fun i : Nat => D.int (i : Int) := by
    unfold rangeD
    rw [show ((n : Int) - 0).toNat = n by omega]
    simp only [Int.zero_add]
  rw [e, lcT_map (f := fun d => match d with | .int i => f i.toNat | _ => false) (h := id)]
  · rw [List.nil_append, List.map_id, List.filter_map]
    rfl
  · intro d hd
    obtain ⟨i, h1, h2⟩ := List.mem_map.mp hd
    subst h2
    rw [List.mem_range] at h1
    exact hs i h1
  · simpa using hn
theorem shownOf_eq {d : D} {s : Str} : shownOf d = some s ↔ ∃ p, reprD d = some p ∧ (p.showable = true ∧ p.depth ≤ 20 ∧ p.shown.length ≤ sizeLine) ∧ p.shown = s := by
  unfold shownOf
  rw [Option.bind_eq_some_iff]
  constructor
  · intro ⟨p, e, h⟩
    by_cases c : p.showable = true ∧ p.depth ≤ 20 ∧ p.shown.length ≤ sizeLine
    · rw [if_pos c] at h; exact ⟨p, e, c, Option.some.inj h⟩
    · rw [if_neg c] at h; cases h
  · intro ⟨p, e, c, h⟩
    exact ⟨p, e, by rw [if_pos c, h]⟩
@[simp] theorem k_repr {d : D} {K : D → Prop} : kRepr [d] K = ∃ s, shownOf d = some s ∧ K (.str s) := by
  refine propext ⟨fun ⟨d', p, e1, e2, e3, q⟩ => ?_, fun ⟨s, e, q⟩ => ?_⟩
  · cases e1
    exact ⟨p.shown, shownOf_eq.mpr ⟨p, e2, e3, rfl⟩, q⟩
  · obtain ⟨p, e2, e3, e4⟩ := shownOf_eq.mp e
    exact ⟨d, p, rfl, e2, e3, by rw [e4]; exact q⟩
/-- d has a text -/
def Shw (d : D) : Prop := ∃ s, shownOf d = some s ∧ PyData.strOk s = true
def shB (d : D) : Bool := match shownOf d with
  | some s => PyData.strOk s
  | none => false
theorem shw_of {d : D} (h : shB d = true) : Shw d := by
  unfold shB at h
  cases e : shownOf d with
  | none => rw [e] at h; cases h
  | some s => rw [e] at h; exact ⟨s, e, h⟩
end DL

set_option Elab.async false
set_option linter.all false
set_option maxRecDepth 100000
set_option maxHeartbeats 4000000
/-! DL32: the head's facts, one by one. -/
namespace DL
open PySem PySem.Spec PyProof.Rows L2 LamX
abbrev dD (x : Str) (st : Stmt) : He.DefD := ⟨(x, none), x, x, defArgs st, defBody st, defScope st, [], []⟩
abbrev dI (c q : Str) (st : Stmt) : He.DefD := ⟨(c, some "__init__"), "__init__", q, defArgs st, defBody st, defScope st, [], []⟩
abbrev lamQ (x : Str) : Str := x ++ ".<locals>." ++ "<lambda>"
def tabT (K : PySem.W.Frag) (tf : List He.Defn) : List (Addr × Str) := tf.map fun p => ((He.cT K p).2, lamQ p.1)
section
variable {fa : List He.Fa} {fn : List He.DefD} {ts : List He.Tab} {tf : List He.Defn} {ex : PySem.W.Frag → Bool} {w : World} {h : Heap} {K : PySem.W.Frag} {mg : Str → Option Value}
theorem fx_fn (X : K.In h) (G : h.Ns mainGlobals mg) (c : He.SaysX fa fn ts tf ex w h K) {x : Str} {st : Stmt} (i j : Nat) (h1 : fa[i]? = some (.glo x)) (h2 : fn[j]? = some (dD x st)) : ∃ f fd, mg x = some (.ref f) ∧ Fun K x x st f fd := by
  obtain ⟨fd, F⟩ := c.t.d.def_ j h2
  exact ⟨_, fd, He.glo_ok X G (c.t.d.fact i h1), fun_ofD F⟩
theorem fx_free (X : K.In h) (G : h.Ns mainGlobals mg) (c : He.SaysX fa fn ts tf ex w h K) {x : Str} (i : Nat) (h1 : fa[i]? = some (.free x)) : mg x = none := He.free_ok X G (c.t.d.fact i h1)
theorem fx_int (X : K.In h) (G : h.Ns mainGlobals mg) (c : He.SaysX fa fn ts tf ex w h K) {x : Str} {n : Int} (i : Nat) (h1 : fa[i]? = some (.int x n)) : ∃ u, mg x = some (.int n u) := He.int_ok X G (c.t.d.fact i h1)
theorem fx_lm (X : K.In h) (G : h.Ns mainGlobals mg) (c : He.SaysX fa fn ts tf ex w h K) {base : Heap} (tb : ∀ p ∈ tf.map (He.cT K), TabB base mg p.1 p.2) (nd : (tf.map fun p => (He.cT K p).2).Nodup) {x : Str} {st : Stmt} (i j k : Nat) (h1 : fa[i]? = some (.glo x)) (h2 : fn[j]? = some (dD x st)) (h3 : tf[k]? = some (x, none)) :
    ∃ f fd c P, mg x = some (.ref f) ∧ Fun K x x st f fd ∧ fd.code = .ref c ∧ TabB base mg c P ∧ (P, lamQ x) ∈ tabT K tf ∧ ∀ p ∈ tabT K tf, p.1 = P → p.2 = lamQ x := by
  obtain ⟨fd, F⟩ := c.t.d.def_ j h2
  have F' : Fun K x x st (He.fAd K (x, none)) fd := fun_ofD F
  obtain ⟨oc, od, kV, doc, pm, an, cdv, ct, osl, e, lk, hcd⟩ := F'.ex
  obtain ⟨cc, hc⟩ := He.codeIn_ref hcd
  have e2 : fd.code = .ref cc := by rw [e, ← hc]
  have e3 := He.codeOf_eq lk e2
  have hk : k < tf.length := by
    rcases Nat.lt_or_ge k tf.length with z | z
    · exact z
    · rw [List.getElem?_eq_none z] at h3; cases h3
  have h4 : tf[k] = (x, none) := by rw [List.getElem?_eq_getElem hk] at h3; exact Option.some.inj h3
  have mem : (x, none) ∈ tf := by rw [← h4]; exact List.getElem_mem hk
  have e4 : (He.cT K (x, none)).1 = cc := e3
  refine ⟨_, fd, cc, (He.cT K (x, none)).2, He.glo_ok X G (c.t.d.fact i h1), F', e2, ?_, ?_, ?_⟩
  · have t := tb _ (List.mem_map_of_mem (f := He.cT K) mem)
    rw [e4] at t; exact t
  · exact List.mem_map.mpr ⟨_, mem, rfl⟩
  · intro p hp e5
    obtain ⟨q, hq, rfl⟩ := List.mem_map.mp hp
    obtain ⟨m, hm, hqm⟩ := List.mem_iff_getElem.mp hq
    have e6 : (tf.map fun p => (He.cT K p).2)[m]'(by simpa using hm) = (tf.map fun p => (He.cT K p).2)[k]'(by simpa using hk) := by
      rw [List.getElem_map, List.getElem_map, hqm, h4]; exact e5
    have nd2 := List.pairwise_iff_getElem.mp nd
    have e7 : m = k := by
      rcases Nat.lt_trichotomy m k with z | z | z
      · exact absurd e6 (nd2 m k (by simpa using hm) (by simpa using hk) z)
      · exact z
      · exact absurd e6.symm (nd2 k m (by simpa using hk) (by simpa using hm) z)
    subst e7
    rw [h4] at hqm
    rw [← hqm]
theorem fx_ini (c : He.SaysX fa fn ts tf ex w h K) {x q : Str} {st : Stmt} (j : Nat) (h2 : fn[j]? = some (dI x q st)) : ∃ fd, Fun K "__init__" q st (He.ma K (He.ga K x) "__init__") fd := by
  obtain ⟨fd, F⟩ := c.t.d.def_ j h2
  exact ⟨fd, fun_ofD F⟩
theorem fx_meth (c : He.SaysX fa fn ts tf ex w h K) {x m : Str} (i : Nat) (h1 : fa[i]? = some (.meth x m)) : PySem.W.findIn K (.ref (He.ga K x)) m = some (some (.ref (He.ma K (He.ga K x) m))) ∧ PySem.W.typeIn K (.ref (He.ma K (He.ga K x) m)) = some (.type "function") := by
  have M := He.meth_ok (c.t.d.fact i h1)
  exact ⟨M.at_, eq_of_beq M.fn⟩
theorem fx_noat (c : He.SaysX fa fn ts tf ex w h K) {x f : Str} (i : Nat) (h1 : fa[i]? = some (.noat x f)) : PySem.W.findIn K (.ref (He.ga K x)) f = some none := He.noat_ok (c.t.d.fact i h1)
theorem fx_xc0 (X : K.In h) (G : h.Ns mainGlobals mg) (c : He.SaysX fa fn ts tf ex w h K) {x : Str} (i j : Nat) (h1 : fa[i]? = some (.glo x)) (h2 : fa[j]? = some (.exc x)) : XCls0 K mg x := by
  obtain ⟨a, b, d, e⟩ := He.exc_ok (c.t.d.fact j h2)
  exact ⟨⟨_, He.glo_ok X G (c.t.d.fact i h1), a, b, d, e⟩⟩
theorem fun_uniq {x q : Str} {st : Stmt} {f : Addr} {fd fd' : FuncData} (F : Fun K x q st f fd) (F' : Fun K x q st f fd') : fd = fd' := by
  obtain ⟨_, _, _, _, _, _, _, _, _, _, lk, _⟩ := F.ex
  obtain ⟨_, _, _, _, _, _, _, _, _, _, lk', _⟩ := F'.ex
  rw [lk] at lk'
  cases lk'; rfl
end
theorem def_le {P : Program} {w : World} {K : PySem.W.Frag} {mg : Str → Option Value} {base : Heap} {T : List (Addr × Str)} {j k : Nat} {x : Str} {S : Spec} (d : Def P w K mg base T k x S) (h : k ≤ j) : Def P w K mg base T j x S := by
  obtain ⟨f, fd, ps, a, b, c, e⟩ := d.ex
  exact ⟨⟨f, fd, ps, a, b, c, e.mono h⟩, d.mono⟩
theorem tabs_of {tf : List He.Defn} {K : PySem.W.Frag} {H : Hp} (h : ∀ p ∈ tf.map (He.cT K), H p.2 = some (.tbl #[])) : Tabs (tabT K tf) H := by
  intro p hp
  obtain ⟨q, hq, rfl⟩ := List.mem_map.mp hp
  have e := h _ (List.mem_map_of_mem (f := He.cT K) hq)
  exact ⟨#[], e, trivial, fun pos cv z => by cases z⟩
theorem binds_any {K : PySem.W.Frag} {x q : Str} {st : Stmt} {f : Addr} {fd : FuncData} {a : Str} (F : Fun K x q st f fd)
    (h : ∀ (kV doc pm : Value) (an : Option Addr) (cdv ct : Value) (u : Value), bindArgs (PySem.W.fnOf x q (defArgs st) (defBody st) (defScope st) .none kV doc pm an cdv ct) ⟨[u], []⟩ = pure [(a, u)]) (s : Shared) (u : Value) : BindsTo s fd ⟨[u], []⟩ [(a, u)] := by
  obtain ⟨oc, od, kV, doc, pm, an, cdv, ct, osl, rfl, lk, hcd⟩ := F.ex
  exact .of_eq (h kV doc pm an cdv ct u)
end DL

set_option Elab.async false
set_option linter.all false
set_option maxRecDepth 100000
set_option maxHeartbeats 4000000
/-! DL33: loops by an invariant. -/
namespace DL
open PySem PySem.Spec PyProof.Rows L2 LamX
theorem w_laps {tc : TDT} {tb : TDS} {N : DEnds} {n : Nat} {δ : List Slot} : laps tc tb N (n + 1) δ = tc δ fun c => if c = true then tb { nx := laps tc tb N n, rt := N.rt, ct := laps tc tb N n, bk := N.nx } δ else N.nx δ := (rfl)
theorem w_while {tc : TDT} {tb : TDS} {N : DEnds} {δ : List Slot} : dWhile tc tb N δ = ∃ n, laps tc tb N n δ := (rfl)
/-- a while whose turn is a function of the state -/
theorem while_inv {α : Type} {tc : TDT} {tb : TDS} {N : DEnds} {enc : α → List Slot} {c : α → Bool} {f : α → α} {μ : α → Nat} {Inv : α → Prop}
    (hc : ∀ a, Inv a → ∀ KT, KT (c a) → tc (enc a) KT)
    (hb : ∀ a, Inv a → c a = true → ∀ M : DEnds, M.rt = N.rt → M.nx (enc (f a)) → tb M (enc a))
    (hm : ∀ a, Inv a → c a = true → μ (f a) < μ a) (hi : ∀ a, Inv a → c a = true → Inv (f a))
    (hn : ∀ a, Inv a → c a = false → N.nx (enc a)) : ∀ a, Inv a → dWhile tc tb N (enc a) := by
  have key : ∀ (k : Nat) (a : α), μ a < k → Inv a → ∃ n, laps tc tb N n (enc a) := by
    intro k
    induction k with
    | zero => intro a h; omega
    | succ k ih =>
      intro a h ha
      cases e : c a with
      | false => exact ⟨1, by rw [w_laps]; exact hc a ha _ (by rw [e, if_neg (by decide)]; exact hn a ha e)⟩
      | true =>
        obtain ⟨n, hn'⟩ := ih (f a) (by have := hm a ha e; omega) (hi a ha e)
        exact ⟨n + 1, by rw [w_laps]; exact hc a ha _ (by rw [e, if_pos rfl]; exact hb a ha e _ rfl hn')⟩
  intro a ha
  rw [w_while]
  exact key _ a (Nat.lt_succ_self _) ha
/-- a for whose turn is a function of the state: Inv i a, i turns done -/
theorem turns_inv {α : Type} {tg : TDG} {tb : TDS} {N : DEnds} {enc : α → List Slot} {f : α → D → α} {Inv : Nat → α → Prop} : ∀ (its : List D) (i : Nat),
    (∀ j a d, its[j]? = some d → Inv (i + j) a → ∀ M : DEnds, M.rt = N.rt → M.nx (enc (f a d)) → tg d (enc a) fun δ1 => tb M δ1) →
    (∀ j a d, its[j]? = some d → Inv (i + j) a → Inv (i + j + 1) (f a d)) →
    (∀ a, Inv (i + its.length) a → N.nx (enc a)) → ∀ a, Inv i a → turns tg tb N its (enc a)
  | [], i, _, _, hn, a, ha => hn a (by simpa using ha)
  | d :: its, i, hb, hi, hn, a, ha => by
    rw [w_turns1]
    refine hb 0 a d rfl (by simpa using ha) _ rfl ?_
    show turns tg tb N its (enc (f a d))
    refine turns_inv (f := f) (Inv := Inv) its (i + 1) (fun j a d h q => ?_) (fun j a d h q => ?_) (fun a h => hn a (by rw [List.length_cons]; rwa [show i + (its.length + 1) = i + 1 + its.length by omega])) _ (by simpa using hi 0 a d rfl (by simpa using ha))
    · exact hb (j + 1) a d (by simpa using h) (by rwa [show i + (j + 1) = i + 1 + j by omega])
    · have := hi (j + 1) a d (by simpa using h) (by rwa [show i + (j + 1) = i + 1 + j by omega])
      rwa [show i + (j + 1) + 1 = i + 1 + j + 1 by omega] at this
@[simp] theorem at_b4_2 {α : Type} {x0 x1 x2 x3 : α} : atI [x0, x1, x2, x3] (-2) = some x2 := by rfl
@[simp] theorem at_b4_3 {α : Type} {x0 x1 x2 x3 : α} : atI [x0, x1, x2, x3] (-3) = some x1 := by rfl
@[simp] theorem at_b6_2 {α : Type} {x0 x1 x2 x3 x4 x5 : α} : atI [x0, x1, x2, x3, x4, x5] (-2) = some x4 := by rfl
@[simp] theorem at_b6_3 {α : Type} {x0 x1 x2 x3 x4 x5 : α} : atI [x0, x1, x2, x3, x4, x5] (-3) = some x3 := by rfl
@[simp] theorem at_b6_4 {α : Type} {x0 x1 x2 x3 x4 x5 : α} : atI [x0, x1, x2, x3, x4, x5] (-4) = some x2 := by rfl
@[simp] theorem at_b6_5 {α : Type} {x0 x1 x2 x3 x4 x5 : α} : atI [x0, x1, x2, x3, x4, x5] (-5) = some x1 := by rfl
@[simp] theorem at_5 {α : Type} {x0 x1 x2 x3 x4 x5 : α} : atI [x0, x1, x2, x3, x4, x5] 5 = some x5 := by rfl
/-! words -/
@[simp] theorem ok_number : PyData.strOk ("number" : Str) = true := by decide +kernel
@[simp] theorem ok_row : PyData.strOk ("row" : Str) = true := by decide +kernel
@[simp] theorem ok_table : PyData.strOk ("table" : Str) = true := by decide +kernel
@[simp] theorem ok_book : PyData.strOk ("book" : Str) = true := by decide +kernel
@[simp] theorem ok_badname : PyData.strOk ("badname" : Str) = true := by decide +kernel
@[simp] theorem ok_text : PyData.strOk ("text" : Str) = true := by decide +kernel
@[simp] theorem ok_place : PyData.strOk ("place" : Str) = true := by decide +kernel
@[simp] theorem ok_noname : PyData.strOk ("noname" : Str) = true := by decide +kernel
@[simp] theorem ok_taken : PyData.strOk ("taken" : Str) = true := by decide +kernel
@[simp] theorem ok_unlike : PyData.strOk ("unlike" : Str) = true := by decide +kernel
@[simp] theorem ok_notthere : PyData.strOk ("notthere" : Str) = true := by decide +kernel
@[simp] theorem ok_many : PyData.strOk ("many" : Str) = true := by decide +kernel
@[simp] theorem ok_kept : PyData.strOk ("kept" : Str) = true := by decide +kernel
@[simp] theorem ok_undo : PyData.strOk ("undo" : Str) = true := by decide +kernel
@[simp] theorem ok_redo : PyData.strOk ("redo" : Str) = true := by decide +kernel
@[simp] theorem ok_kind : PyData.strOk ("kind" : Str) = true := by decide +kernel
@[simp] theorem ok_one : PyData.strOk ("one" : Str) = true := by decide +kernel
@[simp] theorem ok_other : PyData.strOk ("other" : Str) = true := by decide +kernel
@[simp] theorem ok_what : PyData.strOk ("what" : Str) = true := by decide +kernel
@[simp] theorem ok_p : PyData.strOk ("p" : Str) = true := by decide +kernel
@[simp] theorem ok_e : PyData.strOk ("e" : Str) = true := by decide +kernel
@[simp] theorem ok_m : PyData.strOk ("m" : Str) = true := by decide +kernel
@[simp] theorem ok_k : PyData.strOk ("k" : Str) = true := by decide +kernel
@[simp] theorem ok_by : PyData.strOk ("by" : Str) = true := by decide +kernel
@[simp] theorem ok_prime : PyData.strOk ("prime" : Str) = true := by decide +kernel
@[simp] theorem ok_lot : PyData.strOk ("lot" : Str) = true := by decide +kernel
@[simp] theorem ok_a : PyData.strOk ("a" : Str) = true := by decide +kernel
@[simp] theorem ok_b : PyData.strOk ("b" : Str) = true := by decide +kernel
@[simp] theorem ok_c : PyData.strOk ("c" : Str) = true := by decide +kernel
@[simp] theorem ok_r : PyData.strOk ("r" : Str) = true := by decide +kernel
@[simp] theorem ok_s : PyData.strOk ("s" : Str) = true := by decide +kernel
@[simp] theorem ok_norm : PyData.strOk ("norm" : Str) = true := by decide +kernel
@[simp] theorem ok_parts : PyData.strOk ("parts" : Str) = true := by decide +kernel
@[simp] theorem ok_index : PyData.strOk ("index" : Str) = true := by decide +kernel
@[simp] theorem ok_line : PyData.strOk ("line" : Str) = true := by decide +kernel
@[simp] theorem ok_word : PyData.strOk ("word" : Str) = true := by decide +kernel
@[simp] theorem ok_name : PyData.strOk ("name" : Str) = true := by decide +kernel
@[simp] theorem ok_paper : PyData.strOk ("paper" : Str) = true := by decide +kernel
@[simp] theorem ok_limit : PyData.strOk ("limit" : Str) = true := by decide +kernel
@[simp] theorem ok_promise : PyData.strOk ("promise" : Str) = true := by decide +kernel
@[simp] theorem ok_witness : PyData.strOk ("witness" : Str) = true := by decide +kernel
@[simp] theorem ok_value : PyData.strOk ("value" : Str) = true := by decide +kernel
@[simp] theorem ok_told : PyData.strOk ("told" : Str) = true := by decide +kernel
@[simp] theorem ok_asks : PyData.strOk ("asks" : Str) = true := by decide +kernel
@[simp] theorem ok_head : PyData.strOk ("head" : Str) = true := by decide +kernel
@[simp] theorem ok_i : PyData.strOk ("i" : Str) = true := by decide +kernel
@[simp] theorem ok_j : PyData.strOk ("j" : Str) = true := by decide +kernel
@[simp] theorem ok_n : PyData.strOk ("n" : Str) = true := by decide +kernel
@[simp] theorem ok_d : PyData.strOk ("d" : Str) = true := by decide +kernel
@[simp] theorem ok_q : PyData.strOk ("q" : Str) = true := by decide +kernel
@[simp] theorem ok_x : PyData.strOk ("x" : Str) = true := by decide +kernel
@[simp] theorem ok_several : PyData.strOk ("several" : Str) = true := by decide +kernel
@[simp] theorem ok_figures : PyData.strOk ("figures" : Str) = true := by decide +kernel
@[simp] theorem ok_lift : PyData.strOk ("lift" : Str) = true := by decide +kernel
@[simp] theorem ok_y : PyData.strOk ("y" : Str) = true := by decide +kernel
@[simp] theorem ok_t : PyData.strOk ("t" : Str) = true := by decide +kernel
@[simp] theorem ok_steps : PyData.strOk ("steps" : Str) = true := by decide +kernel
@[simp] theorem ok_size : PyData.strOk ("size" : Str) = true := by decide +kernel
@[simp] theorem ok_letters : PyData.strOk ("letters" : Str) = true := by decide +kernel
end DL

set_option Elab.async false
set_option linter.all false
set_option maxRecDepth 100000
set_option maxHeartbeats 0
namespace DL
open PySem PySem.Spec PyProof.Rows L2 LamX
def top (i : Nat) : Stmt := PySem.Challenge.pw_fourthsthirds_k05_whole_primary_numbers.main.body.getD i (.Pass ⟨0, 0, 0, 0⟩)
abbrev st_is_integer : Stmt := top 18
abbrev st_is_list : Stmt := top 19
abbrev st_need_kind : Stmt := top 22
abbrev st_is_letters : Stmt := top 23
abbrev st_need_letters : Stmt := top 24
abbrev st_norm_by : Stmt := top 25
abbrev st_other_by : Stmt := top 26
abbrev st_product_by : Stmt := top 27
abbrev st_less_by : Stmt := top 28
abbrev st_quotient_by : Stmt := top 29
abbrev st_rest_by : Stmt := top 30
abbrev st_goes_by : Stmt := top 31
abbrev st_units_by : Stmt := top 32
abbrev st_power_by : Stmt := top 33
abbrev st_even_by : Stmt := top 35
abbrev st_is_primary_by : Stmt := top 36
abbrev st_parted_by : Stmt := top 37
abbrev st_common_by : Stmt := top 38
abbrev st_is_primary : Stmt := top 39
abbrev st_primary_of : Stmt := top 40
abbrev st_common_part : Stmt := top 41
abbrev st__law_pen : Stmt := top 43
abbrev st__law_draw : Stmt := top 44
abbrev st__law_pick : Stmt := top 45
abbrev st__law_is : Stmt := top 46
abbrev st__law_says : Stmt := top 47
abbrev st__law_is_whole : Stmt := top 48
abbrev st__law_wide : Stmt := top 49
abbrev st__law_fault : Stmt := top 50
abbrev st__law_kinds : Stmt := top 51
abbrev st__law_more_kinds : Stmt := top 52
abbrev st__law_signed : Stmt := top 53
abbrev st__law_kind : Stmt := top 54
abbrev st__law_norm : Stmt := top 55
abbrev st__law_other : Stmt := top 56
abbrev st__law_product : Stmt := top 57
abbrev st__law_less : Stmt := top 58
abbrev st__law_goes : Stmt := top 59
abbrev st__law_over : Stmt := top 60
abbrev st__law_units : Stmt := top 61
abbrev st__law_even : Stmt := top 62
abbrev st__law_is_primary : Stmt := top 63
abbrev st__law_primary_one : Stmt := top 64
abbrev st__law_letters : Stmt := top 65
abbrev st__law_some_letters : Stmt := top 66
abbrev st__law_primary : Stmt := top 67
abbrev st__law_bad_letters : Stmt := top 68
abbrev st__law_bad_kind : Stmt := top 69
abbrev st__law_right : Stmt := top 70
abbrev st__law_common_right : Stmt := top 71
abbrev st__law_even_power : Stmt := top 72
abbrev st__law_rest : Stmt := top 73
abbrev st__law_refused : Stmt := top 74
abbrev st__law_two : Stmt := top 75
abbrev st__law_three : Stmt := top 76
abbrev st_law : Stmt := top 77
def ini (i : Nat) : Stmt := match top i with
  | .ClassDef _ _ _ b _ _ _ _ _ _ _ => b.getD 0 (.Pass ⟨0, 0, 0, 0⟩)
  | s => s
abbrev in_BadNumber : Stmt := ini 2
abbrev in_BadRow : Stmt := ini 3
abbrev in_BadTable : Stmt := ini 4
abbrev in_BadBook : Stmt := ini 5
abbrev in_BadName : Stmt := ini 6
abbrev in_BadText : Stmt := ini 7
abbrev in_NoPlace : Stmt := ini 8
abbrev in_NoName : Stmt := ini 9
abbrev in_TakenName : Stmt := ini 10
abbrev in_Unlike : Stmt := ini 11
abbrev in_NotThere : Stmt := ini 12
abbrev in_TooMany : Stmt := ini 13
abbrev in_NotKept : Stmt := ini 14
abbrev RR : PySem.W.OpenRow := PySem.W.OpenLaw.row PySem.Challenge.rw_fourthsthirds_k05_whole_primary_numbers
def fnL0 : List He.DefD := [dD "is_integer" st_is_integer, dD "is_list" st_is_list, dD "need_kind" st_need_kind, dD "is_letters" st_is_letters, dD "need_letters" st_need_letters, dD "norm_by" st_norm_by, dD "other_by" st_other_by, dD "product_by" st_product_by, dD "less_by" st_less_by, dD "quotient_by" st_quotient_by, dD "rest_by" st_rest_by, dD "goes_by" st_goes_by, dD "units_by" st_units_by, dD "power_by" st_power_by, dD "even_by" st_even_by, dD "is_primary_by" st_is_primary_by, dD "parted_by" st_parted_by, dD "common_by" st_common_by, dD "is_primary" st_is_primary, dD "primary_of" st_primary_of, dD "common_part" st_common_part, dD "_law_pen" st__law_pen, dD "_law_draw" st__law_draw, dD "_law_pick" st__law_pick, dD "_law_is" st__law_is]
def fnL1 : List He.DefD := [dD "_law_says" st__law_says, dD "_law_is_whole" st__law_is_whole, dD "_law_wide" st__law_wide, dD "_law_fault" st__law_fault, dD "_law_kinds" st__law_kinds, dD "_law_more_kinds" st__law_more_kinds, dD "_law_signed" st__law_signed, dD "_law_kind" st__law_kind, dD "_law_norm" st__law_norm, dD "_law_other" st__law_other, dD "_law_product" st__law_product, dD "_law_less" st__law_less, dD "_law_goes" st__law_goes, dD "_law_over" st__law_over, dD "_law_units" st__law_units, dD "_law_even" st__law_even, dD "_law_is_primary" st__law_is_primary, dD "_law_primary_one" st__law_primary_one, dD "_law_letters" st__law_letters, dD "_law_some_letters" st__law_some_letters, dD "_law_primary" st__law_primary, dD "_law_bad_letters" st__law_bad_letters, dD "_law_bad_kind" st__law_bad_kind, dD "_law_right" st__law_right, dD "_law_common_right" st__law_common_right]
def fnL2 : List He.DefD := [dD "_law_even_power" st__law_even_power, dD "_law_rest" st__law_rest, dD "_law_refused" st__law_refused, dD "_law_two" st__law_two, dD "_law_three" st__law_three, dD "law" st_law, dI "BadNumber" "BadNumber.__init__" in_BadNumber, dI "BadRow" "BadRow.__init__" in_BadRow, dI "Unlike" "Unlike.__init__" in_Unlike]
def fnL : List He.DefD := fnL0 ++ (fnL1 ++ (fnL2))
def faL0 : List He.Fa := [.glo "PowerError", .glo "BadNumber", .glo "BadRow", .glo "BadTable", .glo "BadBook", .glo "BadName", .glo "BadText", .glo "NoPlace", .glo "NoName", .glo "TakenName", .glo "Unlike", .glo "NotThere", .glo "TooMany", .glo "NotKept", .glo "NothingToUndo", .glo "NothingToRedo", .glo "is_integer", .glo "is_list", .glo "need_kind", .glo "is_letters", .glo "need_letters", .glo "norm_by", .glo "other_by", .glo "product_by", .glo "less_by"]
def faL1 : List He.Fa := [.glo "quotient_by", .glo "rest_by", .glo "goes_by", .glo "units_by", .glo "power_by", .glo "even_by", .glo "is_primary_by", .glo "parted_by", .glo "common_by", .glo "is_primary", .glo "primary_of", .glo "common_part", .glo "_law_pen", .glo "_law_draw", .glo "_law_pick", .glo "_law_is", .glo "_law_says", .glo "_law_is_whole", .glo "_law_wide", .glo "_law_fault", .glo "_law_kinds", .glo "_law_more_kinds", .glo "_law_signed", .glo "_law_kind", .glo "_law_norm"]
def faL2 : List He.Fa := [.glo "_law_other", .glo "_law_product", .glo "_law_less", .glo "_law_goes", .glo "_law_over", .glo "_law_units", .glo "_law_even", .glo "_law_is_primary", .glo "_law_primary_one", .glo "_law_letters", .glo "_law_some_letters", .glo "_law_primary", .glo "_law_bad_letters", .glo "_law_bad_kind", .glo "_law_right", .glo "_law_common_right", .glo "_law_even_power", .glo "_law_rest", .glo "_law_refused", .glo "_law_two", .glo "_law_three", .glo "law", .free "ValueError", .free "abs", .free "all"]
def faL3 : List He.Fa := [.free "bool", .free "int", .free "isinstance", .free "len", .free "list", .free "range", .free "repr", .free "str", .free "tuple", .int "MOST_LETTER" (1000000000000000000000000000000), .meth "BadNumber" "__init__", .noat "BadNumber" "what", .noat "BadNumber" "number", .meth "BadRow" "__init__", .noat "BadRow" "what", .noat "BadRow" "row", .meth "Unlike" "__init__", .noat "Unlike" "what"]
def faL : List He.Fa := faL0 ++ (faL1 ++ (faL2 ++ (faL3)))
def tfL : List He.Defn := [("_law_three", none), ("_law_two", none)]
def exB (K : PySem.W.Frag) : Bool := (XN.all (xk1B K)) && ((["BadNumber", "BadRow", "Unlike"] : List Str).all (fun x => oexB K (He.ga K x)) && decide ((tfL.map fun p => (He.cT K p).2).Nodup))
abbrev hk : PySem.W.Hook := He.hookX 4 faL fnL [] tfL exB
def ob (s : PySem.W.SharedT) : He.AlX := He.obsX 4 faL fnL [] tfL exB (HandSHeadRun.getT s)
theorem ob_eq (s : PySem.W.SharedT) : ob s = hk.obs s.abs := He.obsX_eq (HandSHeadRun.getT_eq s)
def nmL0 : List Str := ["__name__", "PowerError", "BadNumber", "BadRow", "BadTable", "BadBook", "BadName", "BadText", "NoPlace", "NoName", "TakenName", "Unlike", "NotThere", "TooMany", "NotKept", "NothingToUndo", "NothingToRedo", "is_integer", "is_list", "MOST_LETTER", "need_kind", "is_letters", "need_letters", "norm_by", "other_by"]
def nmL1 : List Str := ["product_by", "less_by", "quotient_by", "rest_by", "goes_by", "units_by", "power_by", "even_by", "is_primary_by", "parted_by", "common_by", "is_primary", "primary_of", "common_part", "_law_pen", "_law_draw", "_law_pick", "_law_is", "_law_says", "_law_is_whole", "_law_wide", "_law_fault", "_law_kinds", "_law_more_kinds", "_law_signed"]
def nmL2 : List Str := ["_law_kind", "_law_norm", "_law_other", "_law_product", "_law_less", "_law_goes", "_law_over", "_law_units", "_law_even", "_law_is_primary", "_law_primary_one", "_law_letters", "_law_some_letters", "_law_primary", "_law_bad_letters", "_law_bad_kind", "_law_right", "_law_common_right", "_law_even_power", "_law_rest", "_law_refused", "_law_two", "_law_three"]
def nmL : List Str := nmL0 ++ (nmL1 ++ (nmL2))
theorem run (w : World) : HandSHeadRun.RunEq RR (PySem.W.view RR.prog [77]) hk ob 9000 nmL w := by
  intro os
  kernel_rfl
end DL

set_option Elab.async false
set_option linter.all false
set_option maxRecDepth 100000
set_option maxHeartbeats 0
namespace DL
open PySem PySem.Spec PyProof.Rows L2 LamX
abbrev S__law_draw : Spec := specDraw
theorem m__law_draw : SMono S__law_draw := sx_mono
/-- names: value -/
def t_is_integer (EE : Exc → Prop) : TDS := (dSeq (dRet (dAnd (kIsi isIntD (dVar 0)) (dNotV (kIsi isBoolD (dVar 0))))) dNext)
def S_is_integer : Spec := rdS 1 t_is_integer ["value"]
theorem m_is_integer : SMono S_is_integer := rdS_mono fun EE EE' he => (rs_seq (rs_ret (re_and (re_isi re_var) (re_notV (re_isi re_var)))) rs_next)
theorem l_is_integer : ∀ ds K E, S_is_integer ds K E → ds.length = ["value"].length := fun _ _ _ h => h.1
theorem r_is_integer {ds : List D} {Kk : D → Prop} {EE : Exc → Prop} (h : S_is_integer ds Kk EE) : t_is_integer EE { nx := fun _ => Kk .non, rt := Kk } (startD ["value"] ds) := h.2
/-- names: value -/
def t_is_list (EE : Exc → Prop) : TDS := (dSeq (dRet (kIsi isSeqD (dVar 0))) dNext)
def S_is_list : Spec := rdS 1 t_is_list ["value"]
theorem m_is_list : SMono S_is_list := rdS_mono fun EE EE' he => (rs_seq (rs_ret (re_isi re_var)) rs_next)
theorem l_is_list : ∀ ds K E, S_is_list ds K E → ds.length = ["value"].length := fun _ _ _ h => h.1
theorem r_is_list {ds : List D} {Kk : D → Prop} {EE : Exc → Prop} (h : S_is_list ds Kk EE) : t_is_list EE { nx := fun _ => Kk .non, rt := Kk } (startD ["value"] ds) := h.2
/-- names: kind -/
def t_need_kind (EE : Exc → Prop) : TDS := (dSeq (dIfS (dtOr (dtNot (dTru (dCall S_is_integer (fun _ => EE) (daCons (dVar 0) daNil)))) (dTest (dOp kNotIn (dVar 0) (dTup (daCons (dC (.int 3)) (daCons (dC (.int 4)) daNil)))))) (dSeq (dRaise "BadNumber" ["what", "number"] (fun _ => EE) (daCons (dC (.str "kind")) (daCons (dVar 0) daNil))) dNext) dNext) dNext)
def S_need_kind : Spec := rdS 1 t_need_kind ["kind"]
theorem m_need_kind : SMono S_need_kind := rdS_mono fun EE EE' he => (rs_seq (rs_if (rt_or (rt_not (rt_tru (re_call m_is_integer (fun _ => he) (ra_cons re_var ra_nil)))) (rt_test (re_op kNotIn_mono re_var (re_tup (ra_cons re_c (ra_cons re_c ra_nil)))))) (rs_seq (rs_raise (fun _ => he) (ra_cons re_c (ra_cons re_var ra_nil))) rs_next) rs_next) rs_next)
theorem l_need_kind : ∀ ds K E, S_need_kind ds K E → ds.length = ["kind"].length := fun _ _ _ h => h.1
theorem r_need_kind {ds : List D} {Kk : D → Prop} {EE : Exc → Prop} (h : S_need_kind ds Kk EE) : t_need_kind EE { nx := fun _ => Kk .non, rt := Kk } (startD ["kind"] ds) := h.2
/-- names: value, one -/
def t_is_letters (EE : Exc → Prop) : TDS := (dSeq (dIfS (dtOr (dtNot (dTru (kIsi isTupD (dVar 0)))) (dTest (dOp kNe (dB kLen (daCons (dVar 0) daNil)) (dC (.int 2))))) (dSeq (dRet (dC (.bl false))) dNext) dNext) (dSeq (dRet (dB kAll (daCons (dOfV (dLcV (tiSeq (dVar 0)) (dgName 1) dYes (dAnd (dCall S_is_integer (fun _ _ => False) (daCons (dVar 1) daNil)) (dOp kLe (dB kAbs (daCons (dVar 1) daNil)) (dC (.int 1000000000000000000000000000000)))) [1])) daNil))) dNext))
def S_is_letters : Spec := rdS 1 t_is_letters ["value", "one"]
theorem m_is_letters : SMono S_is_letters := rdS_mono fun EE EE' he => (rs_seq (rs_if (rt_or (rt_not (rt_tru (re_isi re_var))) (rt_test (re_op kNe_mono (re_b mLen (ra_cons re_var ra_nil)) re_c))) (rs_seq (rs_ret re_c) rs_next) rs_next) (rs_seq (rs_ret (re_b mAll (ra_cons (re_ofV (rv_lc (ri_seq re_var) rg_name rt_yes (re_and (re_call m_is_integer (fun _ _ z => z) (ra_cons re_var ra_nil)) (re_op kI0_mono (re_b mAbs (ra_cons re_var ra_nil)) re_c)))) ra_nil))) rs_next))
theorem l_is_letters : ∀ ds K E, S_is_letters ds K E → ds.length = ["value"].length := fun _ _ _ h => h.1
theorem r_is_letters {ds : List D} {Kk : D → Prop} {EE : Exc → Prop} (h : S_is_letters ds Kk EE) : t_is_letters EE { nx := fun _ => Kk .non, rt := Kk } (startD ["value", "one"] ds) := h.2
/-- names: value, what, told -/
def t_need_letters (EE : Exc → Prop) : TDS := (dSeq (dSet 2 (dVal (dIf (dTru (dCall S_is_list (fun _ => EE) (daCons (dVar 0) daNil))) (dB kTuple (daCons (dVar 0) daNil)) (dVar 0)))) (dSeq (dIfS (dtNot (dTru (dCall S_is_letters (fun _ => EE) (daCons (dVar 2) daNil)))) (dSeq (dRaise "BadRow" ["what", "row"] (fun _ => EE) (daCons (dVar 1) (daCons (dVar 0) daNil))) dNext) dNext) (dSeq (dRet (dVar 2)) dNext)))
def S_need_letters : Spec := rdS 2 t_need_letters ["value", "what", "told"]
theorem m_need_letters : SMono S_need_letters := rdS_mono fun EE EE' he => (rs_seq (rs_set (rv_val (re_if (rt_tru (re_call m_is_list (fun _ => he) (ra_cons re_var ra_nil))) (re_b mTuple (ra_cons re_var ra_nil)) re_var))) (rs_seq (rs_if (rt_not (rt_tru (re_call m_is_letters (fun _ => he) (ra_cons re_var ra_nil)))) (rs_seq (rs_raise (fun _ => he) (ra_cons re_var (ra_cons re_var ra_nil))) rs_next) rs_next) (rs_seq (rs_ret re_var) rs_next)))
theorem l_need_letters : ∀ ds K E, S_need_letters ds K E → ds.length = ["value", "what"].length := fun _ _ _ h => h.1
theorem r_need_letters {ds : List D} {Kk : D → Prop} {EE : Exc → Prop} (h : S_need_letters ds Kk EE) : t_need_letters EE { nx := fun _ => Kk .non, rt := Kk } (startD ["value", "what", "told"] ds) := h.2
/-- names: kind, number, a, b -/
def t_norm_by (EE : Exc → Prop) : TDS := (dSeq (dAsg (dVar 1) (dgTup 2 (dgCons (dgName 2) (dgCons (dgName 3) dgNil)))) (dSeq (dRet (dIf (dTest (dOp kEq (dVar 0) (dC (.int 4)))) (dOp kAdd (dOp kMul (dVar 2) (dVar 2)) (dOp kMul (dVar 3) (dVar 3))) (dOp kAdd (dOp kSub (dOp kMul (dVar 2) (dVar 2)) (dOp kMul (dVar 2) (dVar 3))) (dOp kMul (dVar 3) (dVar 3))))) dNext))
def S_norm_by : Spec := rdS 2 t_norm_by ["kind", "number", "a", "b"]
theorem m_norm_by : SMono S_norm_by := rdS_mono fun EE EE' he => (rs_seq (rs_asg re_var (rg_tup (rgs_cons rg_name (rgs_cons rg_name rgs_nil)))) (rs_seq (rs_ret (re_if (rt_test (re_op kEq_mono re_var re_c)) (re_op kAdd_mono (re_op kMul_mono re_var re_var) (re_op kMul_mono re_var re_var)) (re_op kAdd_mono (re_op kI0_mono (re_op kMul_mono re_var re_var) (re_op kMul_mono re_var re_var)) (re_op kMul_mono re_var re_var)))) rs_next))
theorem l_norm_by : ∀ ds K E, S_norm_by ds K E → ds.length = ["kind", "number"].length := fun _ _ _ h => h.1
theorem r_norm_by {ds : List D} {Kk : D → Prop} {EE : Exc → Prop} (h : S_norm_by ds Kk EE) : t_norm_by EE { nx := fun _ => Kk .non, rt := Kk } (startD ["kind", "number", "a", "b"] ds) := h.2
/-- names: kind, number, a, b -/
def t_other_by (EE : Exc → Prop) : TDS := (dSeq (dAsg (dVar 1) (dgTup 2 (dgCons (dgName 2) (dgCons (dgName 3) dgNil)))) (dSeq (dRet (dIf (dTest (dOp kEq (dVar 0) (dC (.int 4)))) (dTup (daCons (dVar 2) (daCons (dOp kSub (dC (.int 0)) (dVar 3)) daNil))) (dTup (daCons (dOp kSub (dVar 2) (dVar 3)) (daCons (dOp kSub (dC (.int 0)) (dVar 3)) daNil))))) dNext))
def S_other_by : Spec := rdS 2 t_other_by ["kind", "number", "a", "b"]
theorem m_other_by : SMono S_other_by := rdS_mono fun EE EE' he => (rs_seq (rs_asg re_var (rg_tup (rgs_cons rg_name (rgs_cons rg_name rgs_nil)))) (rs_seq (rs_ret (re_if (rt_test (re_op kEq_mono re_var re_c)) (re_tup (ra_cons re_var (ra_cons (re_op kI0_mono re_c re_var) ra_nil))) (re_tup (ra_cons (re_op kI0_mono re_var re_var) (ra_cons (re_op kI0_mono re_c re_var) ra_nil))))) rs_next))
theorem l_other_by : ∀ ds K E, S_other_by ds K E → ds.length = ["kind", "number"].length := fun _ _ _ h => h.1
theorem r_other_by {ds : List D} {Kk : D → Prop} {EE : Exc → Prop} (h : S_other_by ds Kk EE) : t_other_by EE { nx := fun _ => Kk .non, rt := Kk } (startD ["kind", "number", "a", "b"] ds) := h.2
/-- names: kind, one, other, a, b, c, d -/
def t_product_by (EE : Exc → Prop) : TDS := (dSeq (dAsg (dVar 1) (dgTup 2 (dgCons (dgName 3) (dgCons (dgName 4) dgNil)))) (dSeq (dAsg (dVar 2) (dgTup 2 (dgCons (dgName 5) (dgCons (dgName 6) dgNil)))) (dSeq (dRet (dIf (dTest (dOp kEq (dVar 0) (dC (.int 4)))) (dTup (daCons (dOp kSub (dOp kMul (dVar 3) (dVar 5)) (dOp kMul (dVar 4) (dVar 6))) (daCons (dOp kAdd (dOp kMul (dVar 3) (dVar 6)) (dOp kMul (dVar 4) (dVar 5))) daNil))) (dTup (daCons (dOp kSub (dOp kMul (dVar 3) (dVar 5)) (dOp kMul (dVar 4) (dVar 6))) (daCons (dOp kSub (dOp kAdd (dOp kMul (dVar 3) (dVar 6)) (dOp kMul (dVar 4) (dVar 5))) (dOp kMul (dVar 4) (dVar 6))) daNil))))) dNext)))
def S_product_by : Spec := rdS 3 t_product_by ["kind", "one", "other", "a", "b", "c", "d"]
theorem m_product_by : SMono S_product_by := rdS_mono fun EE EE' he => (rs_seq (rs_asg re_var (rg_tup (rgs_cons rg_name (rgs_cons rg_name rgs_nil)))) (rs_seq (rs_asg re_var (rg_tup (rgs_cons rg_name (rgs_cons rg_name rgs_nil)))) (rs_seq (rs_ret (re_if (rt_test (re_op kEq_mono re_var re_c)) (re_tup (ra_cons (re_op kI0_mono (re_op kMul_mono re_var re_var) (re_op kMul_mono re_var re_var)) (ra_cons (re_op kAdd_mono (re_op kMul_mono re_var re_var) (re_op kMul_mono re_var re_var)) ra_nil))) (re_tup (ra_cons (re_op kI0_mono (re_op kMul_mono re_var re_var) (re_op kMul_mono re_var re_var)) (ra_cons (re_op kI0_mono (re_op kAdd_mono (re_op kMul_mono re_var re_var) (re_op kMul_mono re_var re_var)) (re_op kMul_mono re_var re_var)) ra_nil))))) rs_next)))
theorem l_product_by : ∀ ds K E, S_product_by ds K E → ds.length = ["kind", "one", "other"].length := fun _ _ _ h => h.1
theorem r_product_by {ds : List D} {Kk : D → Prop} {EE : Exc → Prop} (h : S_product_by ds Kk EE) : t_product_by EE { nx := fun _ => Kk .non, rt := Kk } (startD ["kind", "one", "other", "a", "b", "c", "d"] ds) := h.2
/-- names: one, other -/
def t_less_by (EE : Exc → Prop) : TDS := (dSeq (dRet (dTup (daCons (dOp kSub (dOp kIx (dVar 0) (dC (.int 0))) (dOp kIx (dVar 1) (dC (.int 0)))) (daCons (dOp kSub (dOp kIx (dVar 0) (dC (.int 1))) (dOp kIx (dVar 1) (dC (.int 1)))) daNil)))) dNext)
def S_less_by : Spec := rdS 2 t_less_by ["one", "other"]
theorem m_less_by : SMono S_less_by := rdS_mono fun EE EE' he => (rs_seq (rs_ret (re_tup (ra_cons (re_op kI0_mono (re_op kIx_mono re_var re_c) (re_op kIx_mono re_var re_c)) (ra_cons (re_op kI0_mono (re_op kIx_mono re_var re_c) (re_op kIx_mono re_var re_c)) ra_nil)))) rs_next)
theorem l_less_by : ∀ ds K E, S_less_by ds K E → ds.length = ["one", "other"].length := fun _ _ _ h => h.1
theorem r_less_by {ds : List D} {Kk : D → Prop} {EE : Exc → Prop} (h : S_less_by ds Kk EE) : t_less_by EE { nx := fun _ => Kk .non, rt := Kk } (startD ["one", "other"] ds) := h.2
/-- names: kind, one, other, top, norm -/
def t_quotient_by (EE : Exc → Prop) : TDS := (dSeq (dPar 3 4 (daCons (dCall S_product_by (fun _ => EE) (daCons (dVar 0) (daCons (dVar 1) (daCons (dCall S_other_by (fun _ => EE) (daCons (dVar 0) (daCons (dVar 2) daNil))) daNil)))) (daCons (dCall S_norm_by (fun _ => EE) (daCons (dVar 0) (daCons (dVar 2) daNil))) daNil))) (dSeq (dRet (dTup (daCons (dOp kFdiv (dOp kAdd (dOp kMul (dC (.int 2)) (dOp kIx (dVar 3) (dC (.int 0)))) (dVar 4)) (dOp kMul (dC (.int 2)) (dVar 4))) (daCons (dOp kFdiv (dOp kAdd (dOp kMul (dC (.int 2)) (dOp kIx (dVar 3) (dC (.int 1)))) (dVar 4)) (dOp kMul (dC (.int 2)) (dVar 4))) daNil)))) dNext))
def S_quotient_by : Spec := rdS 3 t_quotient_by ["kind", "one", "other", "top", "norm"]
theorem m_quotient_by : SMono S_quotient_by := rdS_mono fun EE EE' he => (rs_seq (rs_par (ra_cons (re_call m_product_by (fun _ => he) (ra_cons re_var (ra_cons re_var (ra_cons (re_call m_other_by (fun _ => he) (ra_cons re_var (ra_cons re_var ra_nil))) ra_nil)))) (ra_cons (re_call m_norm_by (fun _ => he) (ra_cons re_var (ra_cons re_var ra_nil))) ra_nil))) (rs_seq (rs_ret (re_tup (ra_cons (re_op kI_mono (re_op kAdd_mono (re_op kMul_mono re_c (re_op kIx_mono re_var re_c)) re_var) (re_op kMul_mono re_c re_var)) (ra_cons (re_op kI_mono (re_op kAdd_mono (re_op kMul_mono re_c (re_op kIx_mono re_var re_c)) re_var) (re_op kMul_mono re_c re_var)) ra_nil)))) rs_next))
theorem l_quotient_by : ∀ ds K E, S_quotient_by ds K E → ds.length = ["kind", "one", "other"].length := fun _ _ _ h => h.1
theorem r_quotient_by {ds : List D} {Kk : D → Prop} {EE : Exc → Prop} (h : S_quotient_by ds Kk EE) : t_quotient_by EE { nx := fun _ => Kk .non, rt := Kk } (startD ["kind", "one", "other", "top", "norm"] ds) := h.2
/-- names: kind, one, other -/
def t_rest_by (EE : Exc → Prop) : TDS := (dSeq (dRet (dCall S_less_by (fun _ => EE) (daCons (dVar 1) (daCons (dCall S_product_by (fun _ => EE) (daCons (dVar 0) (daCons (dCall S_quotient_by (fun _ => EE) (daCons (dVar 0) (daCons (dVar 1) (daCons (dVar 2) daNil)))) (daCons (dVar 2) daNil)))) daNil)))) dNext)
def S_rest_by : Spec := rdS 3 t_rest_by ["kind", "one", "other"]
theorem m_rest_by : SMono S_rest_by := rdS_mono fun EE EE' he => (rs_seq (rs_ret (re_call m_less_by (fun _ => he) (ra_cons re_var (ra_cons (re_call m_product_by (fun _ => he) (ra_cons re_var (ra_cons (re_call m_quotient_by (fun _ => he) (ra_cons re_var (ra_cons re_var (ra_cons re_var ra_nil)))) (ra_cons re_var ra_nil)))) ra_nil)))) rs_next)
theorem l_rest_by : ∀ ds K E, S_rest_by ds K E → ds.length = ["kind", "one", "other"].length := fun _ _ _ h => h.1
theorem r_rest_by {ds : List D} {Kk : D → Prop} {EE : Exc → Prop} (h : S_rest_by ds Kk EE) : t_rest_by EE { nx := fun _ => Kk .non, rt := Kk } (startD ["kind", "one", "other"] ds) := h.2
/-- names: kind, one, other -/
def t_goes_by (EE : Exc → Prop) : TDS := (dSeq (dRet (dOp kEq (dCall S_rest_by (fun _ => EE) (daCons (dVar 0) (daCons (dVar 2) (daCons (dVar 1) daNil)))) (dTup (daCons (dC (.int 0)) (daCons (dC (.int 0)) daNil))))) dNext)
def S_goes_by : Spec := rdS 3 t_goes_by ["kind", "one", "other"]
theorem m_goes_by : SMono S_goes_by := rdS_mono fun EE EE' he => (rs_seq (rs_ret (re_op kEq_mono (re_call m_rest_by (fun _ => he) (ra_cons re_var (ra_cons re_var (ra_cons re_var ra_nil)))) (re_tup (ra_cons re_c (ra_cons re_c ra_nil))))) rs_next)
theorem l_goes_by : ∀ ds K E, S_goes_by ds K E → ds.length = ["kind", "one", "other"].length := fun _ _ _ h => h.1
theorem r_goes_by {ds : List D} {Kk : D → Prop} {EE : Exc → Prop} (h : S_goes_by ds Kk EE) : t_goes_by EE { nx := fun _ => Kk .non, rt := Kk } (startD ["kind", "one", "other"] ds) := h.2
/-- names: kind, found, lap -/
def t_units_by (EE : Exc → Prop) : TDS := (dSeq (dSet 1 (dNewL (daCons (dTup (daCons (dC (.int 1)) (daCons (dC (.int 0)) daNil))) daNil))) (dSeq (dForR (dIf (dTest (dOp kEq (dVar 0) (dC (.int 4)))) (dC (.int 3)) (dC (.int 5))) (dgName 2) (dSeq (dApp 1 (dCall S_product_by (fun _ => EE) (daCons (dVar 0) (daCons (dIxO 1 (dNeg (dC (.int 1)))) (daCons (dIf (dTest (dOp kEq (dVar 0) (dC (.int 4)))) (dTup (daCons (dC (.int 0)) (daCons (dC (.int 1)) daNil))) (dTup (daCons (dC (.int 1)) (daCons (dC (.int 1)) daNil)))) daNil))))) dNext)) (dRl 1 (dSeq (dRet (dVar 1)) dNext))))
def S_units_by : Spec := rdS 1 t_units_by ["kind", "found", "lap"]
theorem m_units_by : SMono S_units_by := rdS_mono fun EE EE' he => (rs_seq (rs_set (rv_newL (ra_cons (re_tup (ra_cons re_c (ra_cons re_c ra_nil))) ra_nil))) (rs_seq (rs_forR (re_if (rt_test (re_op kEq_mono re_var re_c)) re_c re_c) rg_name (rs_seq (rs_app (re_call m_product_by (fun _ => he) (ra_cons re_var (ra_cons (re_ixO (re_neg re_c)) (ra_cons (re_if (rt_test (re_op kEq_mono re_var re_c)) (re_tup (ra_cons re_c (ra_cons re_c ra_nil))) (re_tup (ra_cons re_c (ra_cons re_c ra_nil)))) ra_nil))))) rs_next)) (rs_rl (rs_seq (rs_ret re_var) rs_next))))
theorem l_units_by : ∀ ds K E, S_units_by ds K E → ds.length = ["kind"].length := fun _ _ _ h => h.1
theorem r_units_by {ds : List D} {Kk : D → Prop} {EE : Exc → Prop} (h : S_units_by ds Kk EE) : t_units_by EE { nx := fun _ => Kk .non, rt := Kk } (startD ["kind", "found", "lap"] ds) := h.2
/-- names: kind, number, k, found, lap -/
def t_power_by (EE : Exc → Prop) : TDS := (dSeq (dSet 3 (dVal (dTup (daCons (dC (.int 1)) (daCons (dC (.int 0)) daNil))))) (dSeq (dForR (dVar 2) (dgName 4) (dSeq (dSet 3 (dVal (dCall S_product_by (fun _ => EE) (daCons (dVar 0) (daCons (dVar 3) (daCons (dVar 1) daNil)))))) dNext)) (dSeq (dRet (dVar 3)) dNext)))
def S_power_by : Spec := rdS 3 t_power_by ["kind", "number", "k", "found", "lap"]
theorem m_power_by : SMono S_power_by := rdS_mono fun EE EE' he => (rs_seq (rs_set (rv_val (re_tup (ra_cons re_c (ra_cons re_c ra_nil))))) (rs_seq (rs_forR re_var rg_name (rs_seq (rs_set (rv_val (re_call m_product_by (fun _ => he) (ra_cons re_var (ra_cons re_var (ra_cons re_var ra_nil)))))) rs_next)) (rs_seq (rs_ret re_var) rs_next)))
theorem l_power_by : ∀ ds K E, S_power_by ds K E → ds.length = ["kind", "number", "k"].length := fun _ _ _ h => h.1
theorem r_power_by {ds : List D} {Kk : D → Prop} {EE : Exc → Prop} (h : S_power_by ds Kk EE) : t_power_by EE { nx := fun _ => Kk .non, rt := Kk } (startD ["kind", "number", "k", "found", "lap"] ds) := h.2
/-- names: kind -/
def t_even_by (EE : Exc → Prop) : TDS := (dSeq (dRet (dIf (dTest (dOp kEq (dVar 0) (dC (.int 4)))) (dTup (daCons (dC (.int 1)) (daCons (dC (.int 1)) daNil))) (dTup (daCons (dC (.int 1)) (daCons (dNeg (dC (.int 1))) daNil))))) dNext)
def S_even_by : Spec := rdS 1 t_even_by ["kind"]
theorem m_even_by : SMono S_even_by := rdS_mono fun EE EE' he => (rs_seq (rs_ret (re_if (rt_test (re_op kEq_mono re_var re_c)) (re_tup (ra_cons re_c (ra_cons re_c ra_nil))) (re_tup (ra_cons re_c (ra_cons (re_neg re_c) ra_nil))))) rs_next)
theorem l_even_by : ∀ ds K E, S_even_by ds K E → ds.length = ["kind"].length := fun _ _ _ h => h.1
theorem r_even_by {ds : List D} {Kk : D → Prop} {EE : Exc → Prop} (h : S_even_by ds Kk EE) : t_even_by EE { nx := fun _ => Kk .non, rt := Kk } (startD ["kind"] ds) := h.2
/-- names: kind, number, a, b -/
def t_is_primary_by (EE : Exc → Prop) : TDS := (dSeq (dAsg (dVar 1) (dgTup 2 (dgCons (dgName 2) (dgCons (dgName 3) dgNil)))) (dSeq (dIfS (dTest (dOp kEq (dVar 0) (dC (.int 4)))) (dSeq (dRet (dAnd (dOp kEq (dOp kMod (dVar 2) (dC (.int 2))) (dC (.int 1))) (dAnd (dOp kEq (dOp kMod (dVar 3) (dC (.int 2))) (dC (.int 0))) (dOp kEq (dOp kMod (dOp kAdd (dVar 2) (dVar 3)) (dC (.int 4))) (dC (.int 1)))))) dNext) dNext) (dSeq (dRet (dAnd (dOp kEq (dOp kMod (dVar 2) (dC (.int 3))) (dC (.int 1))) (dOp kEq (dOp kMod (dVar 3) (dC (.int 3))) (dC (.int 0))))) dNext)))
def S_is_primary_by : Spec := rdS 2 t_is_primary_by ["kind", "number", "a", "b"]
theorem m_is_primary_by : SMono S_is_primary_by := rdS_mono fun EE EE' he => (rs_seq (rs_asg re_var (rg_tup (rgs_cons rg_name (rgs_cons rg_name rgs_nil)))) (rs_seq (rs_if (rt_test (re_op kEq_mono re_var re_c)) (rs_seq (rs_ret (re_and (re_op kEq_mono (re_op kI_mono re_var re_c) re_c) (re_and (re_op kEq_mono (re_op kI_mono re_var re_c) re_c) (re_op kEq_mono (re_op kI_mono (re_op kAdd_mono re_var re_var) re_c) re_c)))) rs_next) rs_next) (rs_seq (rs_ret (re_and (re_op kEq_mono (re_op kI_mono re_var re_c) re_c) (re_op kEq_mono (re_op kI_mono re_var re_c) re_c))) rs_next)))
theorem l_is_primary_by : ∀ ds K E, S_is_primary_by ds K E → ds.length = ["kind", "number"].length := fun _ _ _ h => h.1
theorem r_is_primary_by {ds : List D} {Kk : D → Prop} {EE : Exc → Prop} (h : S_is_primary_by ds Kk EE) : t_is_primary_by EE { nx := fun _ => Kk .non, rt := Kk } (startD ["kind", "number", "a", "b"] ds) := h.2
/-- names: kind, number, even, count, units, j, left -/
def t_parted_by (EE : Exc → Prop) : TDS := (dSeq (dPar 2 3 (daCons (dCall S_even_by (fun _ => EE) (daCons (dVar 0) daNil)) (daCons (dC (.int 0)) daNil))) (dSeq (dWhile (dTru (dCall S_goes_by (fun _ => EE) (daCons (dVar 0) (daCons (dVar 2) (daCons (dVar 1) daNil))))) (dSeq (dPar 1 3 (daCons (dCall S_quotient_by (fun _ => EE) (daCons (dVar 0) (daCons (dVar 1) (daCons (dVar 2) daNil)))) (daCons (dOp kAdd (dVar 3) (dC (.int 1))) daNil))) dNext)) (dSeq (dSet 4 (dVal (dCall S_units_by (fun _ => EE) (daCons (dVar 0) daNil)))) (dSeq (dForR (dB kLen (daCons (dVar 4) daNil)) (dgName 5) (dSeq (dSet 6 (dVal (dCall S_product_by (fun _ => EE) (daCons (dVar 0) (daCons (dVar 1) (daCons (dOp kIx (dVar 4) (dOp kSub (dC (.int 0)) (dVar 5))) daNil)))))) (dSeq (dIfS (dTru (dCall S_is_primary_by (fun _ => EE) (daCons (dVar 0) (daCons (dVar 6) daNil)))) (dSeq (dRet (dTup (daCons (dVar 3) (daCons (dVar 5) (daCons (dVar 6) daNil))))) dNext) dNext) dNext))) (dSeq (dRet (dC .non)) dNext)))))
def S_parted_by : Spec := rdS 2 t_parted_by ["kind", "number", "even", "count", "units", "j", "left"]
theorem m_parted_by : SMono S_parted_by := rdS_mono fun EE EE' he => (rs_seq (rs_par (ra_cons (re_call m_even_by (fun _ => he) (ra_cons re_var ra_nil)) (ra_cons re_c ra_nil))) (rs_seq (rs_while (rt_tru (re_call m_goes_by (fun _ => he) (ra_cons re_var (ra_cons re_var (ra_cons re_var ra_nil))))) (rs_seq (rs_par (ra_cons (re_call m_quotient_by (fun _ => he) (ra_cons re_var (ra_cons re_var (ra_cons re_var ra_nil)))) (ra_cons (re_op kAdd_mono re_var re_c) ra_nil))) rs_next)) (rs_seq (rs_set (rv_val (re_call m_units_by (fun _ => he) (ra_cons re_var ra_nil)))) (rs_seq (rs_forR (re_b mLen (ra_cons re_var ra_nil)) rg_name (rs_seq (rs_set (rv_val (re_call m_product_by (fun _ => he) (ra_cons re_var (ra_cons re_var (ra_cons (re_op kIx_mono re_var (re_op kI0_mono re_c re_var)) ra_nil)))))) (rs_seq (rs_if (rt_tru (re_call m_is_primary_by (fun _ => he) (ra_cons re_var (ra_cons re_var ra_nil)))) (rs_seq (rs_ret (re_tup (ra_cons re_var (ra_cons re_var (ra_cons re_var ra_nil))))) rs_next) rs_next) rs_next))) (rs_seq (rs_ret re_c) rs_next)))))
theorem l_parted_by : ∀ ds K E, S_parted_by ds K E → ds.length = ["kind", "number"].length := fun _ _ _ h => h.1
theorem r_parted_by {ds : List D} {Kk : D → Prop} {EE : Exc → Prop} (h : S_parted_by ds Kk EE) : t_parted_by EE { nx := fun _ => Kk .non, rt := Kk } (startD ["kind", "number", "even", "count", "units", "j", "left"] ds) := h.2
/-- names: kind, one, other, count, j, left -/
def t_common_by (EE : Exc → Prop) : TDS := (dSeq (dWhile (dTest (dOp kNe (dVar 2) (dTup (daCons (dC (.int 0)) (daCons (dC (.int 0)) daNil))))) (dSeq (dPar 1 2 (daCons (dVar 2) (daCons (dCall S_rest_by (fun _ => EE) (daCons (dVar 0) (daCons (dVar 1) (daCons (dVar 2) daNil)))) daNil))) dNext)) (dSeq (dIfS (dTest (dOp kEq (dVar 1) (dTup (daCons (dC (.int 0)) (daCons (dC (.int 0)) daNil))))) (dSeq (dRet (dVar 1)) dNext) dNext) (dSeq (dAsg (dCall S_parted_by (fun _ => EE) (daCons (dVar 0) (daCons (dVar 1) daNil))) (dgTup 3 (dgCons (dgName 3) (dgCons (dgName 4) (dgCons (dgName 5) dgNil))))) (dSeq (dRet (dCall S_product_by (fun _ => EE) (daCons (dVar 0) (daCons (dCall S_power_by (fun _ => EE) (daCons (dVar 0) (daCons (dCall S_even_by (fun _ => EE) (daCons (dVar 0) daNil)) (daCons (dVar 3) daNil)))) (daCons (dVar 5) daNil))))) dNext))))
def S_common_by : Spec := rdS 3 t_common_by ["kind", "one", "other", "count", "j", "left"]
theorem m_common_by : SMono S_common_by := rdS_mono fun EE EE' he => (rs_seq (rs_while (rt_test (re_op kNe_mono re_var (re_tup (ra_cons re_c (ra_cons re_c ra_nil))))) (rs_seq (rs_par (ra_cons re_var (ra_cons (re_call m_rest_by (fun _ => he) (ra_cons re_var (ra_cons re_var (ra_cons re_var ra_nil)))) ra_nil))) rs_next)) (rs_seq (rs_if (rt_test (re_op kEq_mono re_var (re_tup (ra_cons re_c (ra_cons re_c ra_nil))))) (rs_seq (rs_ret re_var) rs_next) rs_next) (rs_seq (rs_asg (re_call m_parted_by (fun _ => he) (ra_cons re_var (ra_cons re_var ra_nil))) (rg_tup (rgs_cons rg_name (rgs_cons rg_name (rgs_cons rg_name rgs_nil))))) (rs_seq (rs_ret (re_call m_product_by (fun _ => he) (ra_cons re_var (ra_cons (re_call m_power_by (fun _ => he) (ra_cons re_var (ra_cons (re_call m_even_by (fun _ => he) (ra_cons re_var ra_nil)) (ra_cons re_var ra_nil)))) (ra_cons re_var ra_nil))))) rs_next))))
theorem l_common_by : ∀ ds K E, S_common_by ds K E → ds.length = ["kind", "one", "other"].length := fun _ _ _ h => h.1
theorem r_common_by {ds : List D} {Kk : D → Prop} {EE : Exc → Prop} (h : S_common_by ds Kk EE) : t_common_by EE { nx := fun _ => Kk .non, rt := Kk } (startD ["kind", "one", "other", "count", "j", "left"] ds) := h.2
/-- names: kind, number -/
def t_is_primary (EE : Exc → Prop) : TDS := (dSeq (dDrop (dCall S_need_kind (fun _ => EE) (daCons (dVar 0) daNil))) (dSeq (dRet (dCall S_is_primary_by (fun _ => EE) (daCons (dVar 0) (daCons (dCall S_need_letters (fun _ => EE) (daCons (dVar 1) (daCons (dC (.str "number")) daNil))) daNil)))) dNext))
def S_is_primary : Spec := rdS 2 t_is_primary ["kind", "number"]
theorem m_is_primary : SMono S_is_primary := rdS_mono fun EE EE' he => (rs_seq (rs_drop (re_call m_need_kind (fun _ => he) (ra_cons re_var ra_nil))) (rs_seq (rs_ret (re_call m_is_primary_by (fun _ => he) (ra_cons re_var (ra_cons (re_call m_need_letters (fun _ => he) (ra_cons re_var (ra_cons re_c ra_nil))) ra_nil)))) rs_next))
theorem l_is_primary : ∀ ds K E, S_is_primary ds K E → ds.length = ["kind", "number"].length := fun _ _ _ h => h.1
theorem r_is_primary {ds : List D} {Kk : D → Prop} {EE : Exc → Prop} (h : S_is_primary ds Kk EE) : t_is_primary EE { nx := fun _ => Kk .non, rt := Kk } (startD ["kind", "number"] ds) := h.2
/-- names: kind, number, told -/
def t_primary_of (EE : Exc → Prop) : TDS := (dSeq (dDrop (dCall S_need_kind (fun _ => EE) (daCons (dVar 0) daNil))) (dSeq (dSet 2 (dVal (dCall S_need_letters (fun _ => EE) (daCons (dVar 1) (daCons (dC (.str "number")) daNil))))) (dSeq (dIfS (dTest (dOp kEq (dVar 2) (dTup (daCons (dC (.int 0)) (daCons (dC (.int 0)) daNil))))) (dSeq (dRaise "Unlike" ["what"] (fun _ => EE) (daCons (dC (.str "number")) daNil)) dNext) dNext) (dSeq (dRet (dCall S_parted_by (fun _ => EE) (daCons (dVar 0) (daCons (dVar 2) daNil)))) dNext))))
def S_primary_of : Spec := rdS 2 t_primary_of ["kind", "number", "told"]
theorem m_primary_of : SMono S_primary_of := rdS_mono fun EE EE' he => (rs_seq (rs_drop (re_call m_need_kind (fun _ => he) (ra_cons re_var ra_nil))) (rs_seq (rs_set (rv_val (re_call m_need_letters (fun _ => he) (ra_cons re_var (ra_cons re_c ra_nil))))) (rs_seq (rs_if (rt_test (re_op kEq_mono re_var (re_tup (ra_cons re_c (ra_cons re_c ra_nil))))) (rs_seq (rs_raise (fun _ => he) (ra_cons re_c ra_nil)) rs_next) rs_next) (rs_seq (rs_ret (re_call m_parted_by (fun _ => he) (ra_cons re_var (ra_cons re_var ra_nil)))) rs_next))))
theorem l_primary_of : ∀ ds K E, S_primary_of ds K E → ds.length = ["kind", "number"].length := fun _ _ _ h => h.1
theorem r_primary_of {ds : List D} {Kk : D → Prop} {EE : Exc → Prop} (h : S_primary_of ds Kk EE) : t_primary_of EE { nx := fun _ => Kk .non, rt := Kk } (startD ["kind", "number", "told"] ds) := h.2
/-- names: kind, one, other, first -/
def t_common_part (EE : Exc → Prop) : TDS := (dSeq (dDrop (dCall S_need_kind (fun _ => EE) (daCons (dVar 0) daNil))) (dSeq (dSet 3 (dVal (dCall S_need_letters (fun _ => EE) (daCons (dVar 1) (daCons (dC (.str "one")) daNil))))) (dSeq (dRet (dCall S_common_by (fun _ => EE) (daCons (dVar 0) (daCons (dVar 3) (daCons (dCall S_need_letters (fun _ => EE) (daCons (dVar 2) (daCons (dC (.str "other")) daNil))) daNil))))) dNext)))
def S_common_part : Spec := rdS 3 t_common_part ["kind", "one", "other", "first"]
theorem m_common_part : SMono S_common_part := rdS_mono fun EE EE' he => (rs_seq (rs_drop (re_call m_need_kind (fun _ => he) (ra_cons re_var ra_nil))) (rs_seq (rs_set (rv_val (re_call m_need_letters (fun _ => he) (ra_cons re_var (ra_cons re_c ra_nil))))) (rs_seq (rs_ret (re_call m_common_by (fun _ => he) (ra_cons re_var (ra_cons re_var (ra_cons (re_call m_need_letters (fun _ => he) (ra_cons re_var (ra_cons re_c ra_nil))) ra_nil))))) rs_next)))
theorem l_common_part : ∀ ds K E, S_common_part ds K E → ds.length = ["kind", "one", "other"].length := fun _ _ _ h => h.1
theorem r_common_part {ds : List D} {Kk : D → Prop} {EE : Exc → Prop} (h : S_common_part ds Kk EE) : t_common_part EE { nx := fun _ => Kk .non, rt := Kk } (startD ["kind", "one", "other", "first"] ds) := h.2
/-- names: pen, some -/
def t__law_pick (EE : Exc → Prop) : TDS := (dSeq (dRet (dOp kIx (dVar 1) (dCall S__law_draw (fun _ => EE) (daCons (dVar 0) (daCons (dB kLen (daCons (dVar 1) daNil)) daNil))))) dNext)
def S__law_pick : Spec := rdS 2 t__law_pick ["pen", "some"]
theorem m__law_pick : SMono S__law_pick := rdS_mono fun EE EE' he => (rs_seq (rs_ret (re_op kIx_mono re_var (re_call m__law_draw (fun _ => he) (ra_cons re_var (ra_cons (re_b mLen (ra_cons re_var ra_nil)) ra_nil))))) rs_next)
theorem l__law_pick : ∀ ds K E, S__law_pick ds K E → ds.length = ["pen", "some"].length := fun _ _ _ h => h.1
theorem r__law_pick {ds : List D} {Kk : D → Prop} {EE : Exc → Prop} (h : S__law_pick ds Kk EE) : t__law_pick EE { nx := fun _ => Kk .non, rt := Kk } (startD ["pen", "some"] ds) := h.2
/-- names: told, due, at -/
def S__law_is : Nat → Spec
  | 0 => fun _ _ _ => False
  | n + 1 => rdS 2 (fun EE => (dSeq (dIfS (dTru (kIsi isTupD (dVar 1))) (dSeq (dIfS (dtOr (dtNot (dTru (kIsi isTupD (dVar 0)))) (dTest (dOp kNe (dB kLen (daCons (dVar 0) daNil)) (dB kLen (daCons (dVar 1) daNil))))) (dSeq (dRet (dC (.bl false))) dNext) dNext) (dSeq (dRet (dOp kEq (dOfV (dLcV (tiR (dB kLen (daCons (dVar 1) daNil))) (dgName 2) (dtNot (dTru (dCall (S__law_is n) (fun _ _ => False) (daCons (dOp kIx (dVar 0) (dVar 2)) (daCons (dOp kIx (dVar 1) (dVar 2)) daNil))))) (dVar 2) [2])) (dLst daNil))) dNext)) dNext) (dSeq (dIfS (dTest (dOp kIs (dVar 1) (dC .non))) (dSeq (dRet (dOp kIs (dVar 0) (dC .non))) dNext) dNext) (dSeq (dIfS (dTest (dOp kIs (dVar 1) (dC (.bl true)))) (dSeq (dRet (dOp kIs (dVar 0) (dC (.bl true)))) dNext) dNext) (dSeq (dIfS (dTest (dOp kIs (dVar 1) (dC (.bl false)))) (dSeq (dRet (dOp kIs (dVar 0) (dC (.bl false)))) dNext) dNext) (dSeq (dIfS (dTru (kIsi isStrD (dVar 1))) (dSeq (dRet (dAnd (kIsi isStrD (dVar 0)) (dOp kEq (dVar 0) (dVar 1)))) dNext) dNext) (dSeq (dRet (dAnd (kIsi isIntD (dVar 0)) (dAnd (dNotV (kIsi isBoolD (dVar 0))) (dOp kEq (dVar 0) (dVar 1))))) dNext))))))) ["told", "due", "at"]
abbrev RN__law_is : Nat := 4
def t__law_is (n : Nat) (EE : Exc → Prop) : TDS := (dSeq (dIfS (dTru (kIsi isTupD (dVar 1))) (dSeq (dIfS (dtOr (dtNot (dTru (kIsi isTupD (dVar 0)))) (dTest (dOp kNe (dB kLen (daCons (dVar 0) daNil)) (dB kLen (daCons (dVar 1) daNil))))) (dSeq (dRet (dC (.bl false))) dNext) dNext) (dSeq (dRet (dOp kEq (dOfV (dLcV (tiR (dB kLen (daCons (dVar 1) daNil))) (dgName 2) (dtNot (dTru (dCall (S__law_is n) (fun _ _ => False) (daCons (dOp kIx (dVar 0) (dVar 2)) (daCons (dOp kIx (dVar 1) (dVar 2)) daNil))))) (dVar 2) [2])) (dLst daNil))) dNext)) dNext) (dSeq (dIfS (dTest (dOp kIs (dVar 1) (dC .non))) (dSeq (dRet (dOp kIs (dVar 0) (dC .non))) dNext) dNext) (dSeq (dIfS (dTest (dOp kIs (dVar 1) (dC (.bl true)))) (dSeq (dRet (dOp kIs (dVar 0) (dC (.bl true)))) dNext) dNext) (dSeq (dIfS (dTest (dOp kIs (dVar 1) (dC (.bl false)))) (dSeq (dRet (dOp kIs (dVar 0) (dC (.bl false)))) dNext) dNext) (dSeq (dIfS (dTru (kIsi isStrD (dVar 1))) (dSeq (dRet (dAnd (kIsi isStrD (dVar 0)) (dOp kEq (dVar 0) (dVar 1)))) dNext) dNext) (dSeq (dRet (dAnd (kIsi isIntD (dVar 0)) (dAnd (dNotV (kIsi isBoolD (dVar 0))) (dOp kEq (dVar 0) (dVar 1))))) dNext))))))
theorem m__law_is : ∀ n, SMono (S__law_is n)
  | 0 => fun _ _ _ _ _ _ _ h => h.elim
  | n + 1 => by
    have ih := m__law_is n
    exact rdS_mono fun EE EE' he => (rs_seq (rs_if (rt_tru (re_isi re_var)) (rs_seq (rs_if (rt_or (rt_not (rt_tru (re_isi re_var))) (rt_test (re_op kNe_mono (re_b mLen (ra_cons re_var ra_nil)) (re_b mLen (ra_cons re_var ra_nil))))) (rs_seq (rs_ret re_c) rs_next) rs_next) (rs_seq (rs_ret (re_op kEq_mono (re_ofV (rv_lc (ri_r (re_b mLen (ra_cons re_var ra_nil))) rg_name (rt_not (rt_tru (re_call ih (fun _ _ z => z) (ra_cons (re_op kIx_mono re_var re_var) (ra_cons (re_op kIx_mono re_var re_var) ra_nil))))) re_var)) (re_lst ra_nil))) rs_next)) rs_next) (rs_seq (rs_if (rt_test (re_op kIs_mono re_var re_c)) (rs_seq (rs_ret (re_op kIs_mono re_var re_c)) rs_next) rs_next) (rs_seq (rs_if (rt_test (re_op kIs_mono re_var re_c)) (rs_seq (rs_ret (re_op kIs_mono re_var re_c)) rs_next) rs_next) (rs_seq (rs_if (rt_test (re_op kIs_mono re_var re_c)) (rs_seq (rs_ret (re_op kIs_mono re_var re_c)) rs_next) rs_next) (rs_seq (rs_if (rt_tru (re_isi re_var)) (rs_seq (rs_ret (re_and (re_isi re_var) (re_op kEq_mono re_var re_var))) rs_next) rs_next) (rs_seq (rs_ret (re_and (re_isi re_var) (re_and (re_notV (re_isi re_var)) (re_op kEq_mono re_var re_var)))) rs_next))))))
theorem l__law_is : ∀ n ds K E, S__law_is n ds K E → ds.length = ["told", "due"].length
  | 0, _, _, _, h => h.elim
  | n + 1, _, _, _, h => h.1
theorem r__law_is {n : Nat} {ds : List D} {Kk : D → Prop} {EE : Exc → Prop} (h : S__law_is (n + 1) ds Kk EE) : t__law_is n EE { nx := fun _ => Kk .non, rt := Kk } (startD ["told", "due", "at"] ds) := h.2
/-- names: told, due -/
def t__law_says (EE : Exc → Prop) : TDS := (dSeq (dRet (dIf (dTru (dVar 1)) (dOp kIs (dVar 0) (dC (.bl true))) (dOp kIs (dVar 0) (dC (.bl false))))) dNext)
def S__law_says : Spec := rdS 2 t__law_says ["told", "due"]
theorem m__law_says : SMono S__law_says := rdS_mono fun EE EE' he => (rs_seq (rs_ret (re_if (rt_tru re_var) (re_op kIs_mono re_var re_c) (re_op kIs_mono re_var re_c))) rs_next)
theorem l__law_says : ∀ ds K E, S__law_says ds K E → ds.length = ["told", "due"].length := fun _ _ _ h => h.1
theorem r__law_says {ds : List D} {Kk : D → Prop} {EE : Exc → Prop} (h : S__law_says ds Kk EE) : t__law_says EE { nx := fun _ => Kk .non, rt := Kk } (startD ["told", "due"] ds) := h.2
/-- names: value -/
def t__law_is_whole (EE : Exc → Prop) : TDS := (dSeq (dRet (dAnd (kIsi isIntD (dVar 0)) (dNotV (kIsi isBoolD (dVar 0))))) dNext)
def S__law_is_whole : Spec := rdS 1 t__law_is_whole ["value"]
theorem m__law_is_whole : SMono S__law_is_whole := rdS_mono fun EE EE' he => (rs_seq (rs_ret (re_and (re_isi re_var) (re_notV (re_isi re_var)))) rs_next)
theorem l__law_is_whole : ∀ ds K E, S__law_is_whole ds K E → ds.length = ["value"].length := fun _ _ _ h => h.1
theorem r__law_is_whole {ds : List D} {Kk : D → Prop} {EE : Exc → Prop} (h : S__law_is_whole ds Kk EE) : t__law_is_whole EE { nx := fun _ => Kk .non, rt := Kk } (startD ["value"] ds) := h.2
/-- names: pen, figures, found, top, lap -/
def t__law_wide (EE : Exc → Prop) : TDS := (dSeq (dAsg (dTup (daCons (dC (.int 0)) (daCons (dC (.int 1)) daNil))) (dgTup 2 (dgCons (dgName 2) (dgCons (dgName 3) dgNil)))) (dSeq (dForR (dOp kFdiv (dOp kAdd (dVar 1) (dC (.int 5))) (dC (.int 6))) (dgName 4) (dSeq (dSet 2 (dVal (dOp kAdd (dOp kMul (dVar 2) (dOp kPow (dC (.int 10)) (dC (.int 6)))) (dCall S__law_draw (fun _ => EE) (daCons (dVar 0) (daCons (dOp kPow (dC (.int 10)) (dC (.int 6))) daNil)))))) dNext)) (dSeq (dForR (dVar 1) (dgName 4) (dSeq (dSet 3 (dVal (dOp kMul (dVar 3) (dC (.int 10))))) dNext)) (dSeq (dRet (dOp kMod (dB kInt1 (daCons (dVar 2) daNil)) (dVar 3))) dNext))))
def S__law_wide : Spec := rdS 2 t__law_wide ["pen", "figures", "found", "top", "lap"]
theorem m__law_wide : SMono S__law_wide := rdS_mono fun EE EE' he => (rs_seq (rs_asg (re_tup (ra_cons re_c (ra_cons re_c ra_nil))) (rg_tup (rgs_cons rg_name (rgs_cons rg_name rgs_nil)))) (rs_seq (rs_forR (re_op kI_mono (re_op kAdd_mono re_var re_c) re_c) rg_name (rs_seq (rs_set (rv_val (re_op kAdd_mono (re_op kMul_mono re_var (re_op kI_mono re_c re_c)) (re_call m__law_draw (fun _ => he) (ra_cons re_var (ra_cons (re_op kI_mono re_c re_c) ra_nil)))))) rs_next)) (rs_seq (rs_forR re_var rg_name (rs_seq (rs_set (rv_val (re_op kMul_mono re_var re_c))) rs_next)) (rs_seq (rs_ret (re_op kI_mono (re_b mInt1 (ra_cons re_var ra_nil)) re_var)) rs_next))))
theorem l__law_wide : ∀ ds K E, S__law_wide ds K E → ds.length = ["pen", "figures"].length := fun _ _ _ h => h.1
theorem r__law_wide {ds : List D} {Kk : D → Prop} {EE : Exc → Prop} (h : S__law_wide ds Kk EE) : t__law_wide EE { nx := fun _ => Kk .non, rt := Kk } (startD ["pen", "figures", "found", "top", "lap"] ds) := h.2
/-- names: pen, figures -/
def t__law_signed (EE : Exc → Prop) : TDS := (dSeq (dRet (dOp kMul (dOp kSub (dC (.int 1)) (dOp kMul (dC (.int 2)) (dCall S__law_draw (fun _ => EE) (daCons (dVar 0) (daCons (dC (.int 2)) daNil))))) (dCall S__law_wide (fun _ => EE) (daCons (dVar 0) (daCons (dVar 1) daNil))))) dNext)
def S__law_signed : Spec := rdS 2 t__law_signed ["pen", "figures"]
theorem m__law_signed : SMono S__law_signed := rdS_mono fun EE EE' he => (rs_seq (rs_ret (re_op kMul_mono (re_op kI0_mono re_c (re_op kMul_mono re_c (re_call m__law_draw (fun _ => he) (ra_cons re_var (ra_cons re_c ra_nil))))) (re_call m__law_wide (fun _ => he) (ra_cons re_var (ra_cons re_var ra_nil))))) rs_next)
theorem l__law_signed : ∀ ds K E, S__law_signed ds K E → ds.length = ["pen", "figures"].length := fun _ _ _ h => h.1
theorem r__law_signed {ds : List D} {Kk : D → Prop} {EE : Exc → Prop} (h : S__law_signed ds Kk EE) : t__law_signed EE { nx := fun _ => Kk .non, rt := Kk } (startD ["pen", "figures"] ds) := h.2
/-- names: pen -/
def t__law_kind (EE : Exc → Prop) : TDS := (dSeq (dRet (dCall S__law_pick (fun _ => EE) (daCons (dVar 0) (daCons (dLst (daCons (dC (.int 4)) (daCons (dC (.int 3)) daNil))) daNil)))) dNext)
def S__law_kind : Spec := rdS 1 t__law_kind ["pen"]
theorem m__law_kind : SMono S__law_kind := rdS_mono fun EE EE' he => (rs_seq (rs_ret (re_call m__law_pick (fun _ => he) (ra_cons re_var (ra_cons (re_lst (ra_cons re_c (ra_cons re_c ra_nil))) ra_nil)))) rs_next)
theorem l__law_kind : ∀ ds K E, S__law_kind ds K E → ds.length = ["pen"].length := fun _ _ _ h => h.1
theorem r__law_kind {ds : List D} {Kk : D → Prop} {EE : Exc → Prop} (h : S__law_kind ds Kk EE) : t__law_kind EE { nx := fun _ => Kk .non, rt := Kk } (startD ["pen"] ds) := h.2
/-- names: kind, x, a, b -/
def t__law_norm (EE : Exc → Prop) : TDS := (dSeq (dAsg (dVar 1) (dgTup 2 (dgCons (dgName 2) (dgCons (dgName 3) dgNil)))) (dSeq (dRet (dIf (dTest (dOp kEq (dVar 0) (dC (.int 4)))) (dOp kAdd (dOp kMul (dVar 2) (dVar 2)) (dOp kMul (dVar 3) (dVar 3))) (dOp kAdd (dOp kSub (dOp kMul (dVar 2) (dVar 2)) (dOp kMul (dVar 2) (dVar 3))) (dOp kMul (dVar 3) (dVar 3))))) dNext))
def S__law_norm : Spec := rdS 2 t__law_norm ["kind", "x", "a", "b"]
theorem m__law_norm : SMono S__law_norm := rdS_mono fun EE EE' he => (rs_seq (rs_asg re_var (rg_tup (rgs_cons rg_name (rgs_cons rg_name rgs_nil)))) (rs_seq (rs_ret (re_if (rt_test (re_op kEq_mono re_var re_c)) (re_op kAdd_mono (re_op kMul_mono re_var re_var) (re_op kMul_mono re_var re_var)) (re_op kAdd_mono (re_op kI0_mono (re_op kMul_mono re_var re_var) (re_op kMul_mono re_var re_var)) (re_op kMul_mono re_var re_var)))) rs_next))
theorem l__law_norm : ∀ ds K E, S__law_norm ds K E → ds.length = ["kind", "x"].length := fun _ _ _ h => h.1
theorem r__law_norm {ds : List D} {Kk : D → Prop} {EE : Exc → Prop} (h : S__law_norm ds Kk EE) : t__law_norm EE { nx := fun _ => Kk .non, rt := Kk } (startD ["kind", "x", "a", "b"] ds) := h.2
/-- names: kind, x -/
def t__law_other (EE : Exc → Prop) : TDS := (dSeq (dRet (dIf (dTest (dOp kEq (dVar 0) (dC (.int 4)))) (dTup (daCons (dOp kIx (dVar 1) (dC (.int 0))) (daCons (dOp kSub (dC (.int 0)) (dOp kIx (dVar 1) (dC (.int 1)))) daNil))) (dTup (daCons (dOp kSub (dOp kIx (dVar 1) (dC (.int 0))) (dOp kIx (dVar 1) (dC (.int 1)))) (daCons (dOp kSub (dC (.int 0)) (dOp kIx (dVar 1) (dC (.int 1)))) daNil))))) dNext)
def S__law_other : Spec := rdS 2 t__law_other ["kind", "x"]
theorem m__law_other : SMono S__law_other := rdS_mono fun EE EE' he => (rs_seq (rs_ret (re_if (rt_test (re_op kEq_mono re_var re_c)) (re_tup (ra_cons (re_op kIx_mono re_var re_c) (ra_cons (re_op kI0_mono re_c (re_op kIx_mono re_var re_c)) ra_nil))) (re_tup (ra_cons (re_op kI0_mono (re_op kIx_mono re_var re_c) (re_op kIx_mono re_var re_c)) (ra_cons (re_op kI0_mono re_c (re_op kIx_mono re_var re_c)) ra_nil))))) rs_next)
theorem l__law_other : ∀ ds K E, S__law_other ds K E → ds.length = ["kind", "x"].length := fun _ _ _ h => h.1
theorem r__law_other {ds : List D} {Kk : D → Prop} {EE : Exc → Prop} (h : S__law_other ds Kk EE) : t__law_other EE { nx := fun _ => Kk .non, rt := Kk } (startD ["kind", "x"] ds) := h.2
/-- names: kind, x, y, one, two, three -/
def t__law_product (EE : Exc → Prop) : TDS := (dSeq (dPar3 3 4 5 (daCons (dOp kMul (dOp kIx (dVar 1) (dC (.int 0))) (dOp kIx (dVar 2) (dC (.int 0)))) (daCons (dOp kAdd (dOp kMul (dOp kIx (dVar 1) (dC (.int 0))) (dOp kIx (dVar 2) (dC (.int 1)))) (dOp kMul (dOp kIx (dVar 1) (dC (.int 1))) (dOp kIx (dVar 2) (dC (.int 0))))) (daCons (dOp kMul (dOp kIx (dVar 1) (dC (.int 1))) (dOp kIx (dVar 2) (dC (.int 1)))) daNil)))) (dSeq (dRet (dIf (dTest (dOp kEq (dVar 0) (dC (.int 4)))) (dTup (daCons (dOp kSub (dVar 3) (dVar 5)) (daCons (dVar 4) daNil))) (dTup (daCons (dOp kSub (dVar 3) (dVar 5)) (daCons (dOp kSub (dVar 4) (dVar 5)) daNil))))) dNext))
def S__law_product : Spec := rdS 3 t__law_product ["kind", "x", "y", "one", "two", "three"]
theorem m__law_product : SMono S__law_product := rdS_mono fun EE EE' he => (rs_seq (rs_par3 (ra_cons (re_op kMul_mono (re_op kIx_mono re_var re_c) (re_op kIx_mono re_var re_c)) (ra_cons (re_op kAdd_mono (re_op kMul_mono (re_op kIx_mono re_var re_c) (re_op kIx_mono re_var re_c)) (re_op kMul_mono (re_op kIx_mono re_var re_c) (re_op kIx_mono re_var re_c))) (ra_cons (re_op kMul_mono (re_op kIx_mono re_var re_c) (re_op kIx_mono re_var re_c)) ra_nil)))) (rs_seq (rs_ret (re_if (rt_test (re_op kEq_mono re_var re_c)) (re_tup (ra_cons (re_op kI0_mono re_var re_var) (ra_cons re_var ra_nil))) (re_tup (ra_cons (re_op kI0_mono re_var re_var) (ra_cons (re_op kI0_mono re_var re_var) ra_nil))))) rs_next))
theorem l__law_product : ∀ ds K E, S__law_product ds K E → ds.length = ["kind", "x", "y"].length := fun _ _ _ h => h.1
theorem r__law_product {ds : List D} {Kk : D → Prop} {EE : Exc → Prop} (h : S__law_product ds Kk EE) : t__law_product EE { nx := fun _ => Kk .non, rt := Kk } (startD ["kind", "x", "y", "one", "two", "three"] ds) := h.2
/-- names: x, y -/
def t__law_less (EE : Exc → Prop) : TDS := (dSeq (dRet (dTup (daCons (dOp kSub (dOp kIx (dVar 0) (dC (.int 0))) (dOp kIx (dVar 1) (dC (.int 0)))) (daCons (dOp kSub (dOp kIx (dVar 0) (dC (.int 1))) (dOp kIx (dVar 1) (dC (.int 1)))) daNil)))) dNext)
def S__law_less : Spec := rdS 2 t__law_less ["x", "y"]
theorem m__law_less : SMono S__law_less := rdS_mono fun EE EE' he => (rs_seq (rs_ret (re_tup (ra_cons (re_op kI0_mono (re_op kIx_mono re_var re_c) (re_op kIx_mono re_var re_c)) (ra_cons (re_op kI0_mono (re_op kIx_mono re_var re_c) (re_op kIx_mono re_var re_c)) ra_nil)))) rs_next)
theorem l__law_less : ∀ ds K E, S__law_less ds K E → ds.length = ["x", "y"].length := fun _ _ _ h => h.1
theorem r__law_less {ds : List D} {Kk : D → Prop} {EE : Exc → Prop} (h : S__law_less ds Kk EE) : t__law_less EE { nx := fun _ => Kk .non, rt := Kk } (startD ["x", "y"] ds) := h.2
/-- names: kind, y, x, top, norm -/
def t__law_goes (EE : Exc → Prop) : TDS := (dSeq (dPar 3 4 (daCons (dCall S__law_product (fun _ => EE) (daCons (dVar 0) (daCons (dVar 2) (daCons (dCall S__law_other (fun _ => EE) (daCons (dVar 0) (daCons (dVar 1) daNil))) daNil)))) (daCons (dCall S__law_norm (fun _ => EE) (daCons (dVar 0) (daCons (dVar 1) daNil))) daNil))) (dSeq (dRet (dAnd (dOp kEq (dOp kMod (dB kInt1 (daCons (dOp kIx (dVar 3) (dC (.int 0))) daNil)) (dVar 4)) (dC (.int 0))) (dOp kEq (dOp kMod (dB kInt1 (daCons (dOp kIx (dVar 3) (dC (.int 1))) daNil)) (dVar 4)) (dC (.int 0))))) dNext))
def S__law_goes : Spec := rdS 3 t__law_goes ["kind", "y", "x", "top", "norm"]
theorem m__law_goes : SMono S__law_goes := rdS_mono fun EE EE' he => (rs_seq (rs_par (ra_cons (re_call m__law_product (fun _ => he) (ra_cons re_var (ra_cons re_var (ra_cons (re_call m__law_other (fun _ => he) (ra_cons re_var (ra_cons re_var ra_nil))) ra_nil)))) (ra_cons (re_call m__law_norm (fun _ => he) (ra_cons re_var (ra_cons re_var ra_nil))) ra_nil))) (rs_seq (rs_ret (re_and (re_op kEq_mono (re_op kI_mono (re_b mInt1 (ra_cons (re_op kIx_mono re_var re_c) ra_nil)) re_var) re_c) (re_op kEq_mono (re_op kI_mono (re_b mInt1 (ra_cons (re_op kIx_mono re_var re_c) ra_nil)) re_var) re_c))) rs_next))
theorem l__law_goes : ∀ ds K E, S__law_goes ds K E → ds.length = ["kind", "y", "x"].length := fun _ _ _ h => h.1
theorem r__law_goes {ds : List D} {Kk : D → Prop} {EE : Exc → Prop} (h : S__law_goes ds Kk EE) : t__law_goes EE { nx := fun _ => Kk .non, rt := Kk } (startD ["kind", "y", "x", "top", "norm"] ds) := h.2
/-- names: kind, x, y, top, norm -/
def t__law_over (EE : Exc → Prop) : TDS := (dSeq (dPar 3 4 (daCons (dCall S__law_product (fun _ => EE) (daCons (dVar 0) (daCons (dVar 1) (daCons (dCall S__law_other (fun _ => EE) (daCons (dVar 0) (daCons (dVar 2) daNil))) daNil)))) (daCons (dCall S__law_norm (fun _ => EE) (daCons (dVar 0) (daCons (dVar 2) daNil))) daNil))) (dSeq (dRet (dTup (daCons (dOp kFdiv (dOp kIx (dVar 3) (dC (.int 0))) (dVar 4)) (daCons (dOp kFdiv (dOp kIx (dVar 3) (dC (.int 1))) (dVar 4)) daNil)))) dNext))
def S__law_over : Spec := rdS 3 t__law_over ["kind", "x", "y", "top", "norm"]
theorem m__law_over : SMono S__law_over := rdS_mono fun EE EE' he => (rs_seq (rs_par (ra_cons (re_call m__law_product (fun _ => he) (ra_cons re_var (ra_cons re_var (ra_cons (re_call m__law_other (fun _ => he) (ra_cons re_var (ra_cons re_var ra_nil))) ra_nil)))) (ra_cons (re_call m__law_norm (fun _ => he) (ra_cons re_var (ra_cons re_var ra_nil))) ra_nil))) (rs_seq (rs_ret (re_tup (ra_cons (re_op kI_mono (re_op kIx_mono re_var re_c) re_var) (ra_cons (re_op kI_mono (re_op kIx_mono re_var re_c) re_var) ra_nil)))) rs_next))
theorem l__law_over : ∀ ds K E, S__law_over ds K E → ds.length = ["kind", "x", "y"].length := fun _ _ _ h => h.1
theorem r__law_over {ds : List D} {Kk : D → Prop} {EE : Exc → Prop} (h : S__law_over ds Kk EE) : t__law_over EE { nx := fun _ => Kk .non, rt := Kk } (startD ["kind", "x", "y", "top", "norm"] ds) := h.2
/-- names: kind -/
def t__law_units (EE : Exc → Prop) : TDS := (dSeq (dRet (dIf (dTest (dOp kEq (dVar 0) (dC (.int 4)))) (dTup (daCons (dTup (daCons (dC (.int 1)) (daCons (dC (.int 0)) daNil))) (daCons (dTup (daCons (dC (.int 0)) (daCons (dC (.int 1)) daNil))) (daCons (dTup (daCons (dNeg (dC (.int 1))) (daCons (dC (.int 0)) daNil))) (daCons (dTup (daCons (dC (.int 0)) (daCons (dNeg (dC (.int 1))) daNil))) daNil))))) (dTup (daCons (dTup (daCons (dC (.int 1)) (daCons (dC (.int 0)) daNil))) (daCons (dTup (daCons (dC (.int 1)) (daCons (dC (.int 1)) daNil))) (daCons (dTup (daCons (dC (.int 0)) (daCons (dC (.int 1)) daNil))) (daCons (dTup (daCons (dNeg (dC (.int 1))) (daCons (dC (.int 0)) daNil))) (daCons (dTup (daCons (dNeg (dC (.int 1))) (daCons (dNeg (dC (.int 1))) daNil))) (daCons (dTup (daCons (dC (.int 0)) (daCons (dNeg (dC (.int 1))) daNil))) daNil))))))))) dNext)
def S__law_units : Spec := rdS 1 t__law_units ["kind"]
theorem m__law_units : SMono S__law_units := rdS_mono fun EE EE' he => (rs_seq (rs_ret (re_if (rt_test (re_op kEq_mono re_var re_c)) (re_tup (ra_cons (re_tup (ra_cons re_c (ra_cons re_c ra_nil))) (ra_cons (re_tup (ra_cons re_c (ra_cons re_c ra_nil))) (ra_cons (re_tup (ra_cons (re_neg re_c) (ra_cons re_c ra_nil))) (ra_cons (re_tup (ra_cons re_c (ra_cons (re_neg re_c) ra_nil))) ra_nil))))) (re_tup (ra_cons (re_tup (ra_cons re_c (ra_cons re_c ra_nil))) (ra_cons (re_tup (ra_cons re_c (ra_cons re_c ra_nil))) (ra_cons (re_tup (ra_cons re_c (ra_cons re_c ra_nil))) (ra_cons (re_tup (ra_cons (re_neg re_c) (ra_cons re_c ra_nil))) (ra_cons (re_tup (ra_cons (re_neg re_c) (ra_cons (re_neg re_c) ra_nil))) (ra_cons (re_tup (ra_cons re_c (ra_cons (re_neg re_c) ra_nil))) ra_nil))))))))) rs_next)
theorem l__law_units : ∀ ds K E, S__law_units ds K E → ds.length = ["kind"].length := fun _ _ _ h => h.1
theorem r__law_units {ds : List D} {Kk : D → Prop} {EE : Exc → Prop} (h : S__law_units ds Kk EE) : t__law_units EE { nx := fun _ => Kk .non, rt := Kk } (startD ["kind"] ds) := h.2
/-- names: kind -/
def t__law_even (EE : Exc → Prop) : TDS := (dSeq (dRet (dIf (dTest (dOp kEq (dVar 0) (dC (.int 4)))) (dTup (daCons (dC (.int 1)) (daCons (dC (.int 1)) daNil))) (dTup (daCons (dC (.int 1)) (daCons (dNeg (dC (.int 1))) daNil))))) dNext)
def S__law_even : Spec := rdS 1 t__law_even ["kind"]
theorem m__law_even : SMono S__law_even := rdS_mono fun EE EE' he => (rs_seq (rs_ret (re_if (rt_test (re_op kEq_mono re_var re_c)) (re_tup (ra_cons re_c (ra_cons re_c ra_nil))) (re_tup (ra_cons re_c (ra_cons (re_neg re_c) ra_nil))))) rs_next)
theorem l__law_even : ∀ ds K E, S__law_even ds K E → ds.length = ["kind"].length := fun _ _ _ h => h.1
theorem r__law_even {ds : List D} {Kk : D → Prop} {EE : Exc → Prop} (h : S__law_even ds Kk EE) : t__law_even EE { nx := fun _ => Kk .non, rt := Kk } (startD ["kind"] ds) := h.2
/-- names: kind, x -/
def t__law_is_primary (EE : Exc → Prop) : TDS := (dSeq (dIfS (dTest (dOp kEq (dVar 0) (dC (.int 4)))) (dSeq (dRet (dAnd (dOp kEq (dOp kMod (dB kInt1 (daCons (dOp kIx (dVar 1) (dC (.int 0))) daNil)) (dC (.int 2))) (dC (.int 1))) (dAnd (dOp kEq (dOp kMod (dB kInt1 (daCons (dOp kIx (dVar 1) (dC (.int 1))) daNil)) (dC (.int 2))) (dC (.int 0))) (dOp kEq (dOp kMod (dB kInt1 (daCons (dOp kAdd (dOp kIx (dVar 1) (dC (.int 0))) (dOp kIx (dVar 1) (dC (.int 1)))) daNil)) (dC (.int 4))) (dC (.int 1)))))) dNext) dNext) (dSeq (dRet (dAnd (dOp kEq (dOp kMod (dB kInt1 (daCons (dOp kIx (dVar 1) (dC (.int 0))) daNil)) (dC (.int 3))) (dC (.int 1))) (dOp kEq (dOp kMod (dB kInt1 (daCons (dOp kIx (dVar 1) (dC (.int 1))) daNil)) (dC (.int 3))) (dC (.int 0))))) dNext))
def S__law_is_primary : Spec := rdS 2 t__law_is_primary ["kind", "x"]
theorem m__law_is_primary : SMono S__law_is_primary := rdS_mono fun EE EE' he => (rs_seq (rs_if (rt_test (re_op kEq_mono re_var re_c)) (rs_seq (rs_ret (re_and (re_op kEq_mono (re_op kI_mono (re_b mInt1 (ra_cons (re_op kIx_mono re_var re_c) ra_nil)) re_c) re_c) (re_and (re_op kEq_mono (re_op kI_mono (re_b mInt1 (ra_cons (re_op kIx_mono re_var re_c) ra_nil)) re_c) re_c) (re_op kEq_mono (re_op kI_mono (re_b mInt1 (ra_cons (re_op kAdd_mono (re_op kIx_mono re_var re_c) (re_op kIx_mono re_var re_c)) ra_nil)) re_c) re_c)))) rs_next) rs_next) (rs_seq (rs_ret (re_and (re_op kEq_mono (re_op kI_mono (re_b mInt1 (ra_cons (re_op kIx_mono re_var re_c) ra_nil)) re_c) re_c) (re_op kEq_mono (re_op kI_mono (re_b mInt1 (ra_cons (re_op kIx_mono re_var re_c) ra_nil)) re_c) re_c))) rs_next))
theorem l__law_is_primary : ∀ ds K E, S__law_is_primary ds K E → ds.length = ["kind", "x"].length := fun _ _ _ h => h.1
theorem r__law_is_primary {ds : List D} {Kk : D → Prop} {EE : Exc → Prop} (h : S__law_is_primary ds Kk EE) : t__law_is_primary EE { nx := fun _ => Kk .non, rt := Kk } (startD ["kind", "x"] ds) := h.2
def u__law_primary_one_1 (EE : Exc → Prop) : TDS := (dSeq (dSet 2 (dLcV (tiSeq (dVar 2)) (dgName 4) (dTru (dCall S__law_is_primary (fun _ _ => False) (daCons (dVar 0) (daCons (dVar 4) daNil)))) (dVar 4) [4])) (dRl 2 (dSeq (dRet (dIf (dTest (dOp kNe (dVar 2) (dLst daNil))) (dOp kIx (dVar 2) (dC (.int 0))) (dC .non))) dNext)))
theorem mu__law_primary_one_1 {EE EE' : Exc → Prop} (he : ∀ x, EE x → EE' x) : RS (u__law_primary_one_1 EE) (u__law_primary_one_1 EE') := (rs_seq (rs_set (rv_lc (ri_seq re_var) rg_name (rt_tru (re_call m__law_is_primary (fun _ _ z => z) (ra_cons re_var (ra_cons re_var ra_nil)))) re_var)) (rs_rl (rs_seq (rs_ret (re_if (rt_test (re_op kNe_mono re_var (re_lst ra_nil))) (re_op kIx_mono re_var re_c) re_c)) rs_next)))
/-- names: kind, x, some, unit, one -/
def t__law_primary_one (EE : Exc → Prop) : TDS := (dSeq (dSet 2 (dLcV (tiSeq (dCall S__law_units (fun _ => EE) (daCons (dVar 0) daNil))) (dgName 3) dYes (dCall S__law_product (fun _ _ => False) (daCons (dVar 0) (daCons (dVar 1) (daCons (dVar 3) daNil)))) [3])) (dRl 2 (u__law_primary_one_1 EE)))
def S__law_primary_one : Spec := rdS 2 t__law_primary_one ["kind", "x", "some", "unit", "one"]
theorem m__law_primary_one : SMono S__law_primary_one := rdS_mono fun EE EE' he => (rs_seq (rs_set (rv_lc (ri_seq (re_call m__law_units (fun _ => he) (ra_cons re_var ra_nil))) rg_name rt_yes (re_call m__law_product (fun _ _ z => z) (ra_cons re_var (ra_cons re_var (ra_cons re_var ra_nil)))))) (rs_rl (mu__law_primary_one_1 he)))
theorem l__law_primary_one : ∀ ds K E, S__law_primary_one ds K E → ds.length = ["kind", "x"].length := fun _ _ _ h => h.1
theorem r__law_primary_one {ds : List D} {Kk : D → Prop} {EE : Exc → Prop} (h : S__law_primary_one ds Kk EE) : t__law_primary_one EE { nx := fun _ => Kk .non, rt := Kk } (startD ["kind", "x", "some", "unit", "one"] ds) := h.2
/-- names: pen, figures -/
def t__law_letters (EE : Exc → Prop) : TDS := (dSeq (dRet (dTup (daCons (dCall S__law_signed (fun _ => EE) (daCons (dVar 0) (daCons (dVar 1) daNil))) (daCons (dCall S__law_signed (fun _ => EE) (daCons (dVar 0) (daCons (dVar 1) daNil))) daNil)))) dNext)
def S__law_letters : Spec := rdS 2 t__law_letters ["pen", "figures"]
theorem m__law_letters : SMono S__law_letters := rdS_mono fun EE EE' he => (rs_seq (rs_ret (re_tup (ra_cons (re_call m__law_signed (fun _ => he) (ra_cons re_var (ra_cons re_var ra_nil))) (ra_cons (re_call m__law_signed (fun _ => he) (ra_cons re_var (ra_cons re_var ra_nil))) ra_nil)))) rs_next)
theorem l__law_letters : ∀ ds K E, S__law_letters ds K E → ds.length = ["pen", "figures"].length := fun _ _ _ h => h.1
theorem r__law_letters {ds : List D} {Kk : D → Prop} {EE : Exc → Prop} (h : S__law_letters ds Kk EE) : t__law_letters EE { nx := fun _ => Kk .non, rt := Kk } (startD ["pen", "figures"] ds) := h.2
/-- names: pen, found -/
def t__law_some_letters (EE : Exc → Prop) : TDS := (dSeq (dSet 1 (dVal (dCall S__law_letters (fun _ => EE) (daCons (dVar 0) (daCons (dCall S__law_pick (fun _ => EE) (daCons (dVar 0) (daCons (dLst (daCons (dC (.int 1)) (daCons (dC (.int 1)) (daCons (dC (.int 2)) (daCons (dC (.int 3)) daNil))))) daNil))) daNil))))) (dSeq (dSet 1 (dVal (dCall S__law_pick (fun _ => EE) (daCons (dVar 0) (daCons (dLst (daCons (dVar 1) (daCons (dVar 1) (daCons (dTup (daCons (dOp kIx (dVar 1) (dC (.int 0))) (daCons (dC (.int 0)) daNil))) (daCons (dTup (daCons (dC (.int 0)) (daCons (dOp kIx (dVar 1) (dC (.int 1))) daNil))) daNil))))) daNil))))) (dSeq (dRet (dIf (dTest (dOp kNe (dVar 1) (dTup (daCons (dC (.int 0)) (daCons (dC (.int 0)) daNil))))) (dVar 1) (dTup (daCons (dC (.int 1)) (daCons (dC (.int 2)) daNil))))) dNext)))
def S__law_some_letters : Spec := rdS 1 t__law_some_letters ["pen", "found"]
theorem m__law_some_letters : SMono S__law_some_letters := rdS_mono fun EE EE' he => (rs_seq (rs_set (rv_val (re_call m__law_letters (fun _ => he) (ra_cons re_var (ra_cons (re_call m__law_pick (fun _ => he) (ra_cons re_var (ra_cons (re_lst (ra_cons re_c (ra_cons re_c (ra_cons re_c (ra_cons re_c ra_nil))))) ra_nil))) ra_nil))))) (rs_seq (rs_set (rv_val (re_call m__law_pick (fun _ => he) (ra_cons re_var (ra_cons (re_lst (ra_cons re_var (ra_cons re_var (ra_cons (re_tup (ra_cons (re_op kIx_mono re_var re_c) (ra_cons re_c ra_nil))) (ra_cons (re_tup (ra_cons re_c (ra_cons (re_op kIx_mono re_var re_c) ra_nil))) ra_nil))))) ra_nil))))) (rs_seq (rs_ret (re_if (rt_test (re_op kNe_mono re_var (re_tup (ra_cons re_c (ra_cons re_c ra_nil))))) re_var (re_tup (ra_cons re_c (ra_cons re_c ra_nil))))) rs_next)))
theorem l__law_some_letters : ∀ ds K E, S__law_some_letters ds K E → ds.length = ["pen"].length := fun _ _ _ h => h.1
theorem r__law_some_letters {ds : List D} {Kk : D → Prop} {EE : Exc → Prop} (h : S__law_some_letters ds Kk EE) : t__law_some_letters EE { nx := fun _ => Kk .non, rt := Kk } (startD ["pen", "found"] ds) := h.2
/-- names: pen, kind, figures, a, b -/
def t__law_primary (EE : Exc → Prop) : TDS := (dSeq (dAsg (dCall S__law_letters (fun _ => EE) (daCons (dVar 0) (daCons (dVar 2) daNil))) (dgTup 2 (dgCons (dgName 3) (dgCons (dgName 4) dgNil)))) (dSeq (dIfS (dTest (dOp kEq (dVar 1) (dC (.int 3)))) (dSeq (dRet (dTup (daCons (dOp kAdd (dOp kMul (dC (.int 3)) (dVar 3)) (dC (.int 1))) (daCons (dOp kMul (dC (.int 3)) (dVar 4)) daNil)))) dNext) dNext) (dSeq (dPar 3 4 (daCons (dOp kAdd (dOp kMul (dC (.int 2)) (dVar 3)) (dC (.int 1))) (daCons (dOp kMul (dC (.int 2)) (dVar 4)) daNil))) (dSeq (dRet (dIf (dTest (dOp kEq (dOp kMod (dB kInt1 (daCons (dOp kAdd (dVar 3) (dVar 4)) daNil)) (dC (.int 4))) (dC (.int 1)))) (dTup (daCons (dVar 3) (daCons (dVar 4) daNil))) (dIf (dTest (dOp kEq (dOp kMod (dB kInt1 (daCons (dOp kSub (dOp kSub (dC (.int 0)) (dVar 3)) (dVar 4)) daNil)) (dC (.int 4))) (dC (.int 1)))) (dTup (daCons (dOp kSub (dC (.int 0)) (dVar 3)) (daCons (dOp kSub (dC (.int 0)) (dVar 4)) daNil))) (dTup (daCons (dVar 3) (daCons (dOp kAdd (dVar 4) (dC (.int 2))) daNil)))))) dNext))))
def S__law_primary : Spec := rdS 3 t__law_primary ["pen", "kind", "figures", "a", "b"]
theorem m__law_primary : SMono S__law_primary := rdS_mono fun EE EE' he => (rs_seq (rs_asg (re_call m__law_letters (fun _ => he) (ra_cons re_var (ra_cons re_var ra_nil))) (rg_tup (rgs_cons rg_name (rgs_cons rg_name rgs_nil)))) (rs_seq (rs_if (rt_test (re_op kEq_mono re_var re_c)) (rs_seq (rs_ret (re_tup (ra_cons (re_op kAdd_mono (re_op kMul_mono re_c re_var) re_c) (ra_cons (re_op kMul_mono re_c re_var) ra_nil)))) rs_next) rs_next) (rs_seq (rs_par (ra_cons (re_op kAdd_mono (re_op kMul_mono re_c re_var) re_c) (ra_cons (re_op kMul_mono re_c re_var) ra_nil))) (rs_seq (rs_ret (re_if (rt_test (re_op kEq_mono (re_op kI_mono (re_b mInt1 (ra_cons (re_op kAdd_mono re_var re_var) ra_nil)) re_c) re_c)) (re_tup (ra_cons re_var (ra_cons re_var ra_nil))) (re_if (rt_test (re_op kEq_mono (re_op kI_mono (re_b mInt1 (ra_cons (re_op kI0_mono (re_op kI0_mono re_c re_var) re_var) ra_nil)) re_c) re_c)) (re_tup (ra_cons (re_op kI0_mono re_c re_var) (ra_cons (re_op kI0_mono re_c re_var) ra_nil))) (re_tup (ra_cons re_var (ra_cons (re_op kAdd_mono re_var re_c) ra_nil)))))) rs_next))))
theorem l__law_primary : ∀ ds K E, S__law_primary ds K E → ds.length = ["pen", "kind", "figures"].length := fun _ _ _ h => h.1
theorem r__law_primary {ds : List D} {Kk : D → Prop} {EE : Exc → Prop} (h : S__law_primary ds Kk EE) : t__law_primary EE { nx := fun _ => Kk .non, rt := Kk } (startD ["pen", "kind", "figures", "a", "b"] ds) := h.2
/-- names: pen -/
def t__law_bad_letters (EE : Exc → Prop) : TDS := (dSeq (dRet (dCall S__law_pick (fun _ => EE) (daCons (dVar 0) (daCons (dLst (daCons (dC .non) (daCons (dC (.int 3)) (daCons (dC (.str "x")) (daCons (dC (.bl true)) (daCons (dTup daNil) (daCons (dTup (daCons (dC (.int 1)) daNil)) (daCons (dTup (daCons (dC (.int 1)) (daCons (dC (.int 2)) (daCons (dC (.int 3)) daNil)))) (daCons (dTup (daCons (dC (.bl true)) (daCons (dC (.int 0)) daNil))) (daCons (dTup (daCons (dC (.int 1)) (daCons (dC (.str "2")) daNil))) (daCons (dOfV dNewD) (daCons (dTup (daCons (dOp kAdd (dOp kPow (dC (.int 10)) (dC (.int 30))) (dC (.int 1))) (daCons (dC (.int 0)) daNil))) (daCons (dTup (daCons (dC (.int 0)) (daCons (dOp kSub (dOp kSub (dC (.int 0)) (dOp kPow (dC (.int 10)) (dC (.int 30)))) (dC (.int 1))) daNil))) (daCons (dTup (daCons (dC .non) (daCons (dC (.int 1)) daNil))) (daCons (dLst (daCons (dC (.int 1)) daNil)) daNil))))))))))))))) daNil)))) dNext)
def S__law_bad_letters : Spec := rdS 1 t__law_bad_letters ["pen"]
theorem m__law_bad_letters : SMono S__law_bad_letters := rdS_mono fun EE EE' he => (rs_seq (rs_ret (re_call m__law_pick (fun _ => he) (ra_cons re_var (ra_cons (re_lst (ra_cons re_c (ra_cons re_c (ra_cons re_c (ra_cons re_c (ra_cons (re_tup ra_nil) (ra_cons (re_tup (ra_cons re_c ra_nil)) (ra_cons (re_tup (ra_cons re_c (ra_cons re_c (ra_cons re_c ra_nil)))) (ra_cons (re_tup (ra_cons re_c (ra_cons re_c ra_nil))) (ra_cons (re_tup (ra_cons re_c (ra_cons re_c ra_nil))) (ra_cons (re_ofV rv_newD) (ra_cons (re_tup (ra_cons (re_op kAdd_mono (re_op kI_mono re_c re_c) re_c) (ra_cons re_c ra_nil))) (ra_cons (re_tup (ra_cons re_c (ra_cons (re_op kI0_mono (re_op kI0_mono re_c (re_op kI_mono re_c re_c)) re_c) ra_nil))) (ra_cons (re_tup (ra_cons re_c (ra_cons re_c ra_nil))) (ra_cons (re_lst (ra_cons re_c ra_nil)) ra_nil))))))))))))))) ra_nil)))) rs_next)
theorem l__law_bad_letters : ∀ ds K E, S__law_bad_letters ds K E → ds.length = ["pen"].length := fun _ _ _ h => h.1
theorem r__law_bad_letters {ds : List D} {Kk : D → Prop} {EE : Exc → Prop} (h : S__law_bad_letters ds Kk EE) : t__law_bad_letters EE { nx := fun _ => Kk .non, rt := Kk } (startD ["pen"] ds) := h.2
/-- names: pen -/
def t__law_bad_kind (EE : Exc → Prop) : TDS := (dSeq (dRet (dCall S__law_pick (fun _ => EE) (daCons (dVar 0) (daCons (dLst (daCons (dC (.int 2)) (daCons (dC (.int 5)) (daCons (dC (.int 0)) (daCons (dNeg (dC (.int 3))) (daCons (dC .non) (daCons (dC (.bl true)) (daCons (dC (.str "4")) (daCons (dTup (daCons (dC (.int 4)) daNil)) (daCons (dC (.int 12)) (daCons (dC (.int 6)) daNil))))))))))) daNil)))) dNext)
def S__law_bad_kind : Spec := rdS 1 t__law_bad_kind ["pen"]
theorem m__law_bad_kind : SMono S__law_bad_kind := rdS_mono fun EE EE' he => (rs_seq (rs_ret (re_call m__law_pick (fun _ => he) (ra_cons re_var (ra_cons (re_lst (ra_cons re_c (ra_cons re_c (ra_cons re_c (ra_cons (re_neg re_c) (ra_cons re_c (ra_cons re_c (ra_cons re_c (ra_cons (re_tup (ra_cons re_c ra_nil)) (ra_cons re_c (ra_cons re_c ra_nil))))))))))) ra_nil)))) rs_next)
theorem l__law_bad_kind : ∀ ds K E, S__law_bad_kind ds K E → ds.length = ["pen"].length := fun _ _ _ h => h.1
theorem r__law_bad_kind {ds : List D} {Kk : D → Prop} {EE : Exc → Prop} (h : S__law_bad_kind ds Kk EE) : t__law_bad_kind EE { nx := fun _ => Kk .non, rt := Kk } (startD ["pen"] ds) := h.2
/-- names: kind, x, y, top, norm, quotient -/
def t__law_rest (EE : Exc → Prop) : TDS := (dSeq (dPar 3 4 (daCons (dCall S__law_product (fun _ => EE) (daCons (dVar 0) (daCons (dVar 1) (daCons (dCall S__law_other (fun _ => EE) (daCons (dVar 0) (daCons (dVar 2) daNil))) daNil)))) (daCons (dCall S__law_norm (fun _ => EE) (daCons (dVar 0) (daCons (dVar 2) daNil))) daNil))) (dSeq (dSet 5 (dVal (dTup (daCons (dOp kFdiv (dOp kAdd (dOp kMul (dC (.int 2)) (dOp kIx (dVar 3) (dC (.int 0)))) (dVar 4)) (dOp kMul (dC (.int 2)) (dVar 4))) (daCons (dOp kFdiv (dOp kAdd (dOp kMul (dC (.int 2)) (dOp kIx (dVar 3) (dC (.int 1)))) (dVar 4)) (dOp kMul (dC (.int 2)) (dVar 4))) daNil))))) (dSeq (dRet (dCall S__law_less (fun _ => EE) (daCons (dVar 1) (daCons (dCall S__law_product (fun _ => EE) (daCons (dVar 0) (daCons (dVar 5) (daCons (dVar 2) daNil)))) daNil)))) dNext)))
def S__law_rest : Spec := rdS 3 t__law_rest ["kind", "x", "y", "top", "norm", "quotient"]
theorem m__law_rest : SMono S__law_rest := rdS_mono fun EE EE' he => (rs_seq (rs_par (ra_cons (re_call m__law_product (fun _ => he) (ra_cons re_var (ra_cons re_var (ra_cons (re_call m__law_other (fun _ => he) (ra_cons re_var (ra_cons re_var ra_nil))) ra_nil)))) (ra_cons (re_call m__law_norm (fun _ => he) (ra_cons re_var (ra_cons re_var ra_nil))) ra_nil))) (rs_seq (rs_set (rv_val (re_tup (ra_cons (re_op kI_mono (re_op kAdd_mono (re_op kMul_mono re_c (re_op kIx_mono re_var re_c)) re_var) (re_op kMul_mono re_c re_var)) (ra_cons (re_op kI_mono (re_op kAdd_mono (re_op kMul_mono re_c (re_op kIx_mono re_var re_c)) re_var) (re_op kMul_mono re_c re_var)) ra_nil))))) (rs_seq (rs_ret (re_call m__law_less (fun _ => he) (ra_cons re_var (ra_cons (re_call m__law_product (fun _ => he) (ra_cons re_var (ra_cons re_var (ra_cons re_var ra_nil)))) ra_nil)))) rs_next)))
theorem l__law_rest : ∀ ds K E, S__law_rest ds K E → ds.length = ["kind", "x", "y"].length := fun _ _ _ h => h.1
theorem r__law_rest {ds : List D} {Kk : D → Prop} {EE : Exc → Prop} (h : S__law_rest ds Kk EE) : t__law_rest EE { nx := fun _ => Kk .non, rt := Kk } (startD ["kind", "x", "y", "top", "norm", "quotient"] ds) := h.2
/-- names: kind, told, left, here, lap -/
def t__law_even_power (EE : Exc → Prop) : TDS := (dSeq (dSet 3 (dVal (dVar 2))) (dSeq (dForR (dC (.int 200)) (dgName 4) (dSeq (dIfS (dTest (dOp kEq (dVar 3) (dVar 1))) (dSeq (dRet (dC (.bl true))) dNext) dNext) (dSeq (dSet 3 (dVal (dCall S__law_product (fun _ => EE) (daCons (dVar 0) (daCons (dVar 3) (daCons (dCall S__law_even (fun _ => EE) (daCons (dVar 0) daNil)) daNil)))))) dNext))) (dSeq (dRet (dC (.bl false))) dNext)))
def S__law_even_power : Spec := rdS 3 t__law_even_power ["kind", "told", "left", "here", "lap"]
theorem m__law_even_power : SMono S__law_even_power := rdS_mono fun EE EE' he => (rs_seq (rs_set (rv_val re_var)) (rs_seq (rs_forR re_c rg_name (rs_seq (rs_if (rt_test (re_op kEq_mono re_var re_var)) (rs_seq (rs_ret re_c) rs_next) rs_next) (rs_seq (rs_set (rv_val (re_call m__law_product (fun _ => he) (ra_cons re_var (ra_cons re_var (ra_cons (re_call m__law_even (fun _ => he) (ra_cons re_var ra_nil)) ra_nil)))))) rs_next))) (rs_seq (rs_ret re_c) rs_next)))
theorem l__law_even_power : ∀ ds K E, S__law_even_power ds K E → ds.length = ["kind", "told", "left"].length := fun _ _ _ h => h.1
theorem r__law_even_power {ds : List D} {Kk : D → Prop} {EE : Exc → Prop} (h : S__law_even_power ds Kk EE) : t__law_even_power EE { nx := fun _ => Kk .non, rt := Kk } (startD ["kind", "told", "left", "here", "lap"] ds) := h.2
def u__law_common_right_9 (EE : Exc → Prop) : TDS := (dSeq (dPar 9 10 (daCons (dCall S__law_over (fun _ => EE) (daCons (dVar 1) (daCons (dVar 5) (daCons (dVar 7) daNil)))) (daCons (dCall S__law_over (fun _ => EE) (daCons (dVar 1) (daCons (dVar 6) (daCons (dVar 7) daNil)))) daNil))) (dSeq (dForR (dC (.int 400)) (dgName 11) (dSeq (dIfS (dTest (dOp kNe (dVar 10) (dTup (daCons (dC (.int 0)) (daCons (dC (.int 0)) daNil))))) (dSeq (dPar 9 10 (daCons (dVar 10) (daCons (dCall S__law_rest (fun _ => EE) (daCons (dVar 1) (daCons (dVar 9) (daCons (dVar 10) daNil)))) daNil))) dNext) dNext) dNext)) (dSeq (dRet (dOp kEq (dCall S__law_norm (fun _ => EE) (daCons (dVar 1) (daCons (dVar 9) daNil))) (dC (.int 1)))) dNext)))
theorem mu__law_common_right_9 {EE EE' : Exc → Prop} (he : ∀ x, EE x → EE' x) : RS (u__law_common_right_9 EE) (u__law_common_right_9 EE') := (rs_seq (rs_par (ra_cons (re_call m__law_over (fun _ => he) (ra_cons re_var (ra_cons re_var (ra_cons re_var ra_nil)))) (ra_cons (re_call m__law_over (fun _ => he) (ra_cons re_var (ra_cons re_var (ra_cons re_var ra_nil)))) ra_nil))) (rs_seq (rs_forR re_c rg_name (rs_seq (rs_if (rt_test (re_op kNe_mono re_var (re_tup (ra_cons re_c (ra_cons re_c ra_nil))))) (rs_seq (rs_par (ra_cons re_var (ra_cons (re_call m__law_rest (fun _ => he) (ra_cons re_var (ra_cons re_var (ra_cons re_var ra_nil)))) ra_nil))) rs_next) rs_next) rs_next)) (rs_seq (rs_ret (re_op kEq_mono (re_call m__law_norm (fun _ => he) (ra_cons re_var (ra_cons re_var ra_nil))) re_c)) rs_next)))
def u__law_common_right_8 (EE : Exc → Prop) : TDS := (dSeq (dIfS (dtOr (dtNot (dTru (dCall S__law_is_primary (fun _ => EE) (daCons (dVar 1) (daCons (dVar 8) daNil))))) (dtNot (dTru (dCall S__law_even_power (fun _ => EE) (daCons (dVar 1) (daCons (dVar 7) (daCons (dVar 8) daNil))))))) (dSeq (dRet (dC (.bl false))) dNext) dNext) (u__law_common_right_9 EE))
theorem mu__law_common_right_8 {EE EE' : Exc → Prop} (he : ∀ x, EE x → EE' x) : RS (u__law_common_right_8 EE) (u__law_common_right_8 EE') := (rs_seq (rs_if (rt_or (rt_not (rt_tru (re_call m__law_is_primary (fun _ => he) (ra_cons re_var (ra_cons re_var ra_nil))))) (rt_not (rt_tru (re_call m__law_even_power (fun _ => he) (ra_cons re_var (ra_cons re_var (ra_cons re_var ra_nil))))))) (rs_seq (rs_ret re_c) rs_next) rs_next) (mu__law_common_right_9 he))
def u__law_common_right_6 (EE : Exc → Prop) : TDS := (dSeq (dSet 8 (dVal (dVar 7))) (dSeq (dWhile (dTru (dCall S__law_goes (fun _ => EE) (daCons (dVar 1) (daCons (dCall S__law_even (fun _ => EE) (daCons (dVar 1) daNil)) (daCons (dVar 8) daNil))))) (dSeq (dSet 8 (dVal (dCall S__law_over (fun _ => EE) (daCons (dVar 1) (daCons (dVar 8) (daCons (dCall S__law_even (fun _ => EE) (daCons (dVar 1) daNil)) daNil)))))) dNext)) (u__law_common_right_8 EE)))
theorem mu__law_common_right_6 {EE EE' : Exc → Prop} (he : ∀ x, EE x → EE' x) : RS (u__law_common_right_6 EE) (u__law_common_right_6 EE') := (rs_seq (rs_set (rv_val re_var)) (rs_seq (rs_while (rt_tru (re_call m__law_goes (fun _ => he) (ra_cons re_var (ra_cons (re_call m__law_even (fun _ => he) (ra_cons re_var ra_nil)) (ra_cons re_var ra_nil))))) (rs_seq (rs_set (rv_val (re_call m__law_over (fun _ => he) (ra_cons re_var (ra_cons re_var (ra_cons (re_call m__law_even (fun _ => he) (ra_cons re_var ra_nil)) ra_nil)))))) rs_next)) (mu__law_common_right_8 he)))
def u__law_common_right_5 (EE : Exc → Prop) : TDS := (dSeq (dIfS (dtOr (dtNot (dTru (kIsi isTupD (dVar 7)))) (dtOr (dTest (dOp kNe (dB kLen (daCons (dVar 7) daNil)) (dC (.int 2)))) (dtOr (dTest (dOp kEq (dVar 7) (dTup (daCons (dC (.int 0)) (daCons (dC (.int 0)) daNil))))) (dtOr (dtNot (dTru (dCall S__law_goes (fun _ => EE) (daCons (dVar 1) (daCons (dVar 7) (daCons (dVar 5) daNil)))))) (dtOr (dtNot (dTru (dCall S__law_goes (fun _ => EE) (daCons (dVar 1) (daCons (dVar 7) (daCons (dVar 6) daNil)))))) (dtNot (dTru (dCall S__law_goes (fun _ => EE) (daCons (dVar 1) (daCons (dVar 2) (daCons (dVar 7) daNil))))))))))) (dSeq (dRet (dC (.bl false))) dNext) dNext) (u__law_common_right_6 EE))
theorem mu__law_common_right_5 {EE EE' : Exc → Prop} (he : ∀ x, EE x → EE' x) : RS (u__law_common_right_5 EE) (u__law_common_right_5 EE') := (rs_seq (rs_if (rt_or (rt_not (rt_tru (re_isi re_var))) (rt_or (rt_test (re_op kNe_mono (re_b mLen (ra_cons re_var ra_nil)) re_c)) (rt_or (rt_test (re_op kEq_mono re_var (re_tup (ra_cons re_c (ra_cons re_c ra_nil))))) (rt_or (rt_not (rt_tru (re_call m__law_goes (fun _ => he) (ra_cons re_var (ra_cons re_var (ra_cons re_var ra_nil)))))) (rt_or (rt_not (rt_tru (re_call m__law_goes (fun _ => he) (ra_cons re_var (ra_cons re_var (ra_cons re_var ra_nil)))))) (rt_not (rt_tru (re_call m__law_goes (fun _ => he) (ra_cons re_var (ra_cons re_var (ra_cons re_var ra_nil))))))))))) (rs_seq (rs_ret re_c) rs_next) rs_next) (mu__law_common_right_6 he))
def u__law_common_right_4 (EE : Exc → Prop) : TDS := (dSeq (dIfS (dtAnd (dTest (dOp kEq (dVar 5) (dTup (daCons (dC (.int 0)) (daCons (dC (.int 0)) daNil))))) (dTest (dOp kEq (dVar 6) (dTup (daCons (dC (.int 0)) (daCons (dC (.int 0)) daNil)))))) (dSeq (dRet (dCall (S__law_is RN__law_is) (fun _ => EE) (daCons (dVar 7) (daCons (dTup (daCons (dC (.int 0)) (daCons (dC (.int 0)) daNil))) daNil)))) dNext) dNext) (u__law_common_right_5 EE))
theorem mu__law_common_right_4 {EE EE' : Exc → Prop} (he : ∀ x, EE x → EE' x) : RS (u__law_common_right_4 EE) (u__law_common_right_4 EE') := (rs_seq (rs_if (rt_and (rt_test (re_op kEq_mono re_var (re_tup (ra_cons re_c (ra_cons re_c ra_nil))))) (rt_test (re_op kEq_mono re_var (re_tup (ra_cons re_c (ra_cons re_c ra_nil)))))) (rs_seq (rs_ret (re_call (m__law_is RN__law_is) (fun _ => he) (ra_cons re_var (ra_cons (re_tup (ra_cons re_c (ra_cons re_c ra_nil))) ra_nil)))) rs_next) rs_next) (mu__law_common_right_5 he))
def u__law_common_right_3 (EE : Exc → Prop) : TDS := (dSeq (dSet 7 (dVal (dCall S_common_part (fun _ => EE) (daCons (dVar 1) (daCons (dVar 5) (daCons (dB kList (daCons (dVar 6) daNil)) daNil)))))) (u__law_common_right_4 EE))
theorem mu__law_common_right_3 {EE EE' : Exc → Prop} (he : ∀ x, EE x → EE' x) : RS (u__law_common_right_3 EE) (u__law_common_right_3 EE') := (rs_seq (rs_set (rv_val (re_call m_common_part (fun _ => he) (ra_cons re_var (ra_cons re_var (ra_cons (re_b mList (ra_cons re_var ra_nil)) ra_nil)))))) (mu__law_common_right_4 he))
def u__law_common_right_2 (EE : Exc → Prop) : TDS := (dSeq (dIfS (dTest (dOp kEq (dCall S__law_draw (fun _ => EE) (daCons (dVar 0) (daCons (dC (.int 6)) daNil))) (dC (.int 0)))) (dSeq (dSet 5 (dVal (dVar 6))) dNext) dNext) (u__law_common_right_3 EE))
theorem mu__law_common_right_2 {EE EE' : Exc → Prop} (he : ∀ x, EE x → EE' x) : RS (u__law_common_right_2 EE) (u__law_common_right_2 EE') := (rs_seq (rs_if (rt_test (re_op kEq_mono (re_call m__law_draw (fun _ => he) (ra_cons re_var (ra_cons re_c ra_nil))) re_c)) (rs_seq (rs_set (rv_val re_var)) rs_next) rs_next) (mu__law_common_right_3 he))
/-- names: pen, kind, part, one, other, x, y, told, left, first, second, lap -/
def t__law_common_right (EE : Exc → Prop) : TDS := (dSeq (dPar3 2 3 4 (daCons (dCall S__law_some_letters (fun _ => EE) (daCons (dVar 0) daNil)) (daCons (dCall S__law_letters (fun _ => EE) (daCons (dVar 0) (daCons (dCall S__law_pick (fun _ => EE) (daCons (dVar 0) (daCons (dLst (daCons (dC (.int 0)) (daCons (dC (.int 1)) (daCons (dC (.int 2)) (daCons (dC (.int 8)) daNil))))) daNil))) daNil))) (daCons (dCall S__law_letters (fun _ => EE) (daCons (dVar 0) (daCons (dCall S__law_pick (fun _ => EE) (daCons (dVar 0) (daCons (dLst (daCons (dC (.int 1)) (daCons (dC (.int 2)) (daCons (dC (.int 8)) daNil)))) daNil))) daNil))) daNil)))) (dSeq (dPar 5 6 (daCons (dCall S__law_product (fun _ => EE) (daCons (dVar 1) (daCons (dVar 2) (daCons (dVar 3) daNil)))) (daCons (dCall S__law_product (fun _ => EE) (daCons (dVar 1) (daCons (dVar 2) (daCons (dVar 4) daNil)))) daNil))) (u__law_common_right_2 EE)))
def S__law_common_right : Spec := rdS 2 t__law_common_right ["pen", "kind", "part", "one", "other", "x", "y", "told", "left", "first", "second", "lap"]
theorem m__law_common_right : SMono S__law_common_right := rdS_mono fun EE EE' he => (rs_seq (rs_par3 (ra_cons (re_call m__law_some_letters (fun _ => he) (ra_cons re_var ra_nil)) (ra_cons (re_call m__law_letters (fun _ => he) (ra_cons re_var (ra_cons (re_call m__law_pick (fun _ => he) (ra_cons re_var (ra_cons (re_lst (ra_cons re_c (ra_cons re_c (ra_cons re_c (ra_cons re_c ra_nil))))) ra_nil))) ra_nil))) (ra_cons (re_call m__law_letters (fun _ => he) (ra_cons re_var (ra_cons (re_call m__law_pick (fun _ => he) (ra_cons re_var (ra_cons (re_lst (ra_cons re_c (ra_cons re_c (ra_cons re_c ra_nil)))) ra_nil))) ra_nil))) ra_nil)))) (rs_seq (rs_par (ra_cons (re_call m__law_product (fun _ => he) (ra_cons re_var (ra_cons re_var (ra_cons re_var ra_nil)))) (ra_cons (re_call m__law_product (fun _ => he) (ra_cons re_var (ra_cons re_var (ra_cons re_var ra_nil)))) ra_nil))) (mu__law_common_right_2 he)))
theorem l__law_common_right : ∀ ds K E, S__law_common_right ds K E → ds.length = ["pen", "kind"].length := fun _ _ _ h => h.1
theorem r__law_common_right {ds : List D} {Kk : D → Prop} {EE : Exc → Prop} (h : S__law_common_right ds Kk EE) : t__law_common_right EE { nx := fun _ => Kk .non, rt := Kk } (startD ["pen", "kind", "part", "one", "other", "x", "y", "told", "left", "first", "second", "lap"] ds) := h.2
def Γ : List (Str × Spec) := [("is_primary", S_is_primary), ("primary_of", S_primary_of)]
theorem mΓ : ∀ q ∈ Γ, SMono q.2 := by
  intro q h
  simp only [Γ, List.mem_cons, List.not_mem_nil, or_false] at h
  rcases h with rfl | rfl
  · exact m_is_primary
  · exact m_primary_of
@[simp high] theorem g_is_primary {S : Spec} : ((("is_primary" : Str), S) ∈ Γ) = (S = S_is_primary) := by
  refine propext ⟨fun h => ?_, fun h => by subst h; simp [Γ]⟩
  simp only [Γ, List.mem_cons, List.not_mem_nil, or_false, Prod.mk.injEq] at h
  rcases h with h | h
  · exact h.2
  · exact absurd h.1 (by decide +kernel)
@[simp high] theorem g_primary_of {S : Spec} : ((("primary_of" : Str), S) ∈ Γ) = (S = S_primary_of) := by
  refine propext ⟨fun h => ?_, fun h => by subst h; simp [Γ]⟩
  simp only [Γ, List.mem_cons, List.not_mem_nil, or_false, Prod.mk.injEq] at h
  rcases h with h | h
  · exact absurd h.1 (by decide +kernel)
  · exact h.2
/-- names: call, one, other -/
def t__law_two (EE : Exc → Prop) : TDS := (dSeq (dRet (dLam RKf (fun EXL => (dCallV 0 Γ EXL (daCons (dVar 1) (daCons (dVar 2) daNil)))))) dNext)
def S__law_two : Spec := rdS 3 t__law_two ["call", "one", "other"]
theorem m__law_two : SMono S__law_two := rdS_mono fun EE EE' he => (rs_seq (rs_ret (re_lam rkf_mono fun _ _ hx => (re_callV mΓ hx (ra_cons re_var (ra_cons re_var ra_nil))))) rs_next)
theorem l__law_two : ∀ ds K E, S__law_two ds K E → ds.length = ["call", "one", "other"].length := fun _ _ _ h => h.1
theorem r__law_two {ds : List D} {Kk : D → Prop} {EE : Exc → Prop} (h : S__law_two ds Kk EE) : t__law_two EE { nx := fun _ => Kk .non, rt := Kk } (startD ["call", "one", "other"] ds) := h.2
def u__law_right_12 (EE : Exc → Prop) : TDS := (dSeq (dPar 11 12 (daCons (dCall S__law_primary (fun _ => EE) (daCons (dVar 0) (daCons (dVar 1) (daCons (dC (.int 3)) daNil)))) (daCons (dCall S__law_primary (fun _ => EE) (daCons (dVar 0) (daCons (dVar 1) (daCons (dC (.int 3)) daNil)))) daNil))) (dSeq (dSet 13 (dVal (dTup (daCons (dCall S__law_product (fun _ => EE) (daCons (dVar 1) (daCons (dVar 11) (daCons (dVar 12) daNil)))) (daCons (dCall S__law_other (fun _ => EE) (daCons (dVar 1) (daCons (dVar 11) daNil))) (daCons (dVar 11) daNil)))))) (dSeq (dRet (dAnd (dOp kEq (dOfV (dLcV (tiSeq (dVar 13)) (dgName 14) dYes (dCall S_is_primary (fun _ _ => False) (daCons (dVar 1) (daCons (dVar 14) daNil))) [14])) (dOp kMul (dLst (daCons (dC (.bl true)) daNil)) (dC (.int 3)))) (dCall S__law_common_right (fun _ => EE) (daCons (dVar 0) (daCons (dVar 1) daNil))))) dNext)))
theorem mu__law_right_12 {EE EE' : Exc → Prop} (he : ∀ x, EE x → EE' x) : RS (u__law_right_12 EE) (u__law_right_12 EE') := (rs_seq (rs_par (ra_cons (re_call m__law_primary (fun _ => he) (ra_cons re_var (ra_cons re_var (ra_cons re_c ra_nil)))) (ra_cons (re_call m__law_primary (fun _ => he) (ra_cons re_var (ra_cons re_var (ra_cons re_c ra_nil)))) ra_nil))) (rs_seq (rs_set (rv_val (re_tup (ra_cons (re_call m__law_product (fun _ => he) (ra_cons re_var (ra_cons re_var (ra_cons re_var ra_nil)))) (ra_cons (re_call m__law_other (fun _ => he) (ra_cons re_var (ra_cons re_var ra_nil))) (ra_cons re_var ra_nil)))))) (rs_seq (rs_ret (re_and (re_op kEq_mono (re_ofV (rv_lc (ri_seq re_var) rg_name rt_yes (re_call m_is_primary (fun _ _ z => z) (ra_cons re_var (ra_cons re_var ra_nil))))) (re_op kMul_mono (re_lst (ra_cons re_c ra_nil)) re_c)) (re_call m__law_common_right (fun _ => he) (ra_cons re_var (ra_cons re_var ra_nil))))) rs_next)))
def u__law_right_10 (EE : Exc → Prop) : TDS := (dSeq (dIfS (dtOr (dTest (dOp kNe (dVar 6) (dVar 10))) (dtOr (dtNot (dTest (dChain kLe kLt (dC (.int 0)) (dVar 7) (dB kLen (daCons (dCall S__law_units (fun _ => EE) (daCons (dVar 1) daNil)) daNil))))) (dtNot (dTru (dCall (S__law_is RN__law_is) (fun _ => EE) (daCons (dVar 8) (daCons (dCall S__law_primary_one (fun _ => EE) (daCons (dVar 1) (daCons (dVar 9) daNil))) daNil))))))) (dSeq (dRet (dC (.bl false))) dNext) dNext) (dSeq (dIfS (dTest (dOp kNe (dCall S__law_product (fun _ => EE) (daCons (dVar 1) (daCons (dOp kIx (dCall S__law_units (fun _ => EE) (daCons (dVar 1) daNil)) (dVar 7)) (daCons (dVar 8) daNil)))) (dVar 9))) (dSeq (dRet (dC (.bl false))) dNext) dNext) (u__law_right_12 EE)))
theorem mu__law_right_10 {EE EE' : Exc → Prop} (he : ∀ x, EE x → EE' x) : RS (u__law_right_10 EE) (u__law_right_10 EE') := (rs_seq (rs_if (rt_or (rt_test (re_op kNe_mono re_var re_var)) (rt_or (rt_not (rt_test (re_chain kI0_mono kI0_mono re_c re_var (re_b mLen (ra_cons (re_call m__law_units (fun _ => he) (ra_cons re_var ra_nil)) ra_nil))))) (rt_not (rt_tru (re_call (m__law_is RN__law_is) (fun _ => he) (ra_cons re_var (ra_cons (re_call m__law_primary_one (fun _ => he) (ra_cons re_var (ra_cons re_var ra_nil))) ra_nil))))))) (rs_seq (rs_ret re_c) rs_next) rs_next) (rs_seq (rs_if (rt_test (re_op kNe_mono (re_call m__law_product (fun _ => he) (ra_cons re_var (ra_cons (re_op kIx_mono (re_call m__law_units (fun _ => he) (ra_cons re_var ra_nil)) re_var) (ra_cons re_var ra_nil)))) re_var)) (rs_seq (rs_ret re_c) rs_next) rs_next) (mu__law_right_12 he)))
def u__law_right_9 (EE : Exc → Prop) : TDS := (dSeq (dWhile (dTru (dCall S__law_goes (fun _ => EE) (daCons (dVar 1) (daCons (dCall S__law_even (fun _ => EE) (daCons (dVar 1) daNil)) (daCons (dVar 9) daNil))))) (dSeq (dPar 9 10 (daCons (dCall S__law_over (fun _ => EE) (daCons (dVar 1) (daCons (dVar 9) (daCons (dCall S__law_even (fun _ => EE) (daCons (dVar 1) daNil)) daNil)))) (daCons (dOp kAdd (dVar 10) (dC (.int 1))) daNil))) dNext)) (u__law_right_10 EE))
theorem mu__law_right_9 {EE EE' : Exc → Prop} (he : ∀ x, EE x → EE' x) : RS (u__law_right_9 EE) (u__law_right_9 EE') := (rs_seq (rs_while (rt_tru (re_call m__law_goes (fun _ => he) (ra_cons re_var (ra_cons (re_call m__law_even (fun _ => he) (ra_cons re_var ra_nil)) (ra_cons re_var ra_nil))))) (rs_seq (rs_par (ra_cons (re_call m__law_over (fun _ => he) (ra_cons re_var (ra_cons re_var (ra_cons (re_call m__law_even (fun _ => he) (ra_cons re_var ra_nil)) ra_nil)))) (ra_cons (re_op kAdd_mono re_var re_c) ra_nil))) rs_next)) (mu__law_right_10 he))
def u__law_right_7 (EE : Exc → Prop) : TDS := (dSeq (dAsg (dVar 5) (dgTup 3 (dgCons (dgName 6) (dgCons (dgName 7) (dgCons (dgName 8) dgNil))))) (dSeq (dPar 9 10 (daCons (dVar 2) (daCons (dC (.int 0)) daNil))) (u__law_right_9 EE)))
theorem mu__law_right_7 {EE EE' : Exc → Prop} (he : ∀ x, EE x → EE' x) : RS (u__law_right_7 EE) (u__law_right_7 EE') := (rs_seq (rs_asg re_var (rg_tup (rgs_cons rg_name (rgs_cons rg_name (rgs_cons rg_name rgs_nil))))) (rs_seq (rs_par (ra_cons re_var (ra_cons re_c ra_nil))) (mu__law_right_9 he)))
def u__law_right_6 (EE : Exc → Prop) : TDS := (dSeq (dIfS (dtOr (dtNot (dTru (kIsi isTupD (dVar 5)))) (dtOr (dTest (dOp kNe (dB kLen (daCons (dVar 5) daNil)) (dC (.int 3)))) (dtOr (dtNot (dTru (dCall S__law_is_whole (fun _ => EE) (daCons (dOp kIx (dVar 5) (dC (.int 0))) daNil)))) (dtNot (dTru (dCall S__law_is_whole (fun _ => EE) (daCons (dOp kIx (dVar 5) (dC (.int 1))) daNil))))))) (dSeq (dRet (dC (.bl false))) dNext) dNext) (u__law_right_7 EE))
theorem mu__law_right_6 {EE EE' : Exc → Prop} (he : ∀ x, EE x → EE' x) : RS (u__law_right_6 EE) (u__law_right_6 EE') := (rs_seq (rs_if (rt_or (rt_not (rt_tru (re_isi re_var))) (rt_or (rt_test (re_op kNe_mono (re_b mLen (ra_cons re_var ra_nil)) re_c)) (rt_or (rt_not (rt_tru (re_call m__law_is_whole (fun _ => he) (ra_cons (re_op kIx_mono re_var re_c) ra_nil)))) (rt_not (rt_tru (re_call m__law_is_whole (fun _ => he) (ra_cons (re_op kIx_mono re_var re_c) ra_nil))))))) (rs_seq (rs_ret re_c) rs_next) rs_next) (mu__law_right_7 he))
def u__law_right_5 (EE : Exc → Prop) : TDS := (dSeq (dSet 5 (dVal (dCall S_primary_of (fun _ => EE) (daCons (dVar 1) (daCons (dVar 4) daNil))))) (u__law_right_6 EE))
theorem mu__law_right_5 {EE EE' : Exc → Prop} (he : ∀ x, EE x → EE' x) : RS (u__law_right_5 EE) (u__law_right_5 EE') := (rs_seq (rs_set (rv_val (re_call m_primary_of (fun _ => he) (ra_cons re_var (ra_cons re_var ra_nil))))) (mu__law_right_6 he))
def u__law_right_4 (EE : Exc → Prop) : TDS := (dSeq (dIfS (dTest (dOp kEq (dVar 2) (dTup (daCons (dC (.int 0)) (daCons (dC (.int 0)) daNil))))) (dSeq (dRet (dOp kEq (dCall S__law_two (fun _ => EE) (daCons (dC (.fn "primary_of")) (daCons (dVar 1) (daCons (dVar 2) daNil)))) (dTup (daCons (dC (.str "unlike")) (daCons (dC (.str "number")) daNil))))) dNext) dNext) (u__law_right_5 EE))
theorem mu__law_right_4 {EE EE' : Exc → Prop} (he : ∀ x, EE x → EE' x) : RS (u__law_right_4 EE) (u__law_right_4 EE') := (rs_seq (rs_if (rt_test (re_op kEq_mono re_var (re_tup (ra_cons re_c (ra_cons re_c ra_nil))))) (rs_seq (rs_ret (re_op kEq_mono (re_call m__law_two (fun _ => he) (ra_cons re_c (ra_cons re_var (ra_cons re_var ra_nil)))) (re_tup (ra_cons re_c (ra_cons re_c ra_nil))))) rs_next) rs_next) (mu__law_right_5 he))
def u__law_right_3 (EE : Exc → Prop) : TDS := (dSeq (dIfS (dtNot (dTru (dCall S__law_says (fun _ => EE) (daCons (dCall S_is_primary (fun _ => EE) (daCons (dVar 1) (daCons (dVar 4) daNil))) (daCons (dCall S__law_is_primary (fun _ => EE) (daCons (dVar 1) (daCons (dVar 2) daNil))) daNil))))) (dSeq (dRet (dC (.bl false))) dNext) dNext) (u__law_right_4 EE))
theorem mu__law_right_3 {EE EE' : Exc → Prop} (he : ∀ x, EE x → EE' x) : RS (u__law_right_3 EE) (u__law_right_3 EE') := (rs_seq (rs_if (rt_not (rt_tru (re_call m__law_says (fun _ => he) (ra_cons (re_call m_is_primary (fun _ => he) (ra_cons re_var (ra_cons re_var ra_nil))) (ra_cons (re_call m__law_is_primary (fun _ => he) (ra_cons re_var (ra_cons re_var ra_nil))) ra_nil))))) (rs_seq (rs_ret re_c) rs_next) rs_next) (mu__law_right_4 he))
def u__law_right_2 (EE : Exc → Prop) : TDS := (dSeq (dSet 4 (dVal (dIf (dTest (dOp kEq (dCall S__law_draw (fun _ => EE) (daCons (dVar 0) (daCons (dC (.int 2)) daNil))) (dC (.int 0)))) (dB kList (daCons (dVar 2) daNil)) (dVar 2)))) (u__law_right_3 EE))
theorem mu__law_right_2 {EE EE' : Exc → Prop} (he : ∀ x, EE x → EE' x) : RS (u__law_right_2 EE) (u__law_right_2 EE') := (rs_seq (rs_set (rv_val (re_if (rt_test (re_op kEq_mono (re_call m__law_draw (fun _ => he) (ra_cons re_var (ra_cons re_c ra_nil))) re_c)) (re_b mList (ra_cons re_var ra_nil)) re_var))) (mu__law_right_3 he))
def u__law_right_1 (EE : Exc → Prop) : TDS := (dSeq (dForR (dCall S__law_draw (fun _ => EE) (daCons (dVar 0) (daCons (dC (.int 4)) daNil))) (dgName 3) (dSeq (dSet 2 (dVal (dCall S__law_product (fun _ => EE) (daCons (dVar 1) (daCons (dVar 2) (daCons (dCall S__law_even (fun _ => EE) (daCons (dVar 1) daNil)) daNil)))))) dNext)) (u__law_right_2 EE))
theorem mu__law_right_1 {EE EE' : Exc → Prop} (he : ∀ x, EE x → EE' x) : RS (u__law_right_1 EE) (u__law_right_1 EE') := (rs_seq (rs_forR (re_call m__law_draw (fun _ => he) (ra_cons re_var (ra_cons re_c ra_nil))) rg_name (rs_seq (rs_set (rv_val (re_call m__law_product (fun _ => he) (ra_cons re_var (ra_cons re_var (ra_cons (re_call m__law_even (fun _ => he) (ra_cons re_var ra_nil)) ra_nil)))))) rs_next)) (mu__law_right_2 he))
/-- names: pen, kind, x, lap, handed, told, even, unit, primary, left, count, one, other, some, number -/
def t__law_right (EE : Exc → Prop) : TDS := (dSeq (dSet 2 (dVal (dCall S__law_letters (fun _ => EE) (daCons (dVar 0) (daCons (dCall S__law_pick (fun _ => EE) (daCons (dVar 0) (daCons (dLst (daCons (dC (.int 1)) (daCons (dC (.int 1)) (daCons (dC (.int 3)) (daCons (dC (.int 10)) daNil))))) daNil))) daNil))))) (u__law_right_1 EE))
def S__law_right : Spec := rdS 2 t__law_right ["pen", "kind", "x", "lap", "handed", "told", "even", "unit", "primary", "left", "count", "one", "other", "some", "number"]
theorem m__law_right : SMono S__law_right := rdS_mono fun EE EE' he => (rs_seq (rs_set (rv_val (re_call m__law_letters (fun _ => he) (ra_cons re_var (ra_cons (re_call m__law_pick (fun _ => he) (ra_cons re_var (ra_cons (re_lst (ra_cons re_c (ra_cons re_c (ra_cons re_c (ra_cons re_c ra_nil))))) ra_nil))) ra_nil))))) (mu__law_right_1 he))
theorem l__law_right : ∀ ds K E, S__law_right ds K E → ds.length = ["pen", "kind"].length := fun _ _ _ h => h.1
theorem r__law_right {ds : List D} {Kk : D → Prop} {EE : Exc → Prop} (h : S__law_right ds Kk EE) : t__law_right EE { nx := fun _ => Kk .non, rt := Kk } (startD ["pen", "kind", "x", "lap", "handed", "told", "even", "unit", "primary", "left", "count", "one", "other", "some", "number"] ds) := h.2
/-- names: one, other, third -/
def t__law_three (EE : Exc → Prop) : TDS := (dSeq (dRet (dLam RKf (fun EXL => (dCall S_common_part EXL (daCons (dVar 0) (daCons (dVar 1) (daCons (dVar 2) daNil))))))) dNext)
def S__law_three : Spec := rdS 3 t__law_three ["one", "other", "third"]
theorem m__law_three : SMono S__law_three := rdS_mono fun EE EE' he => (rs_seq (rs_ret (re_lam rkf_mono fun _ _ hx => (re_call m_common_part hx (ra_cons re_var (ra_cons re_var (ra_cons re_var ra_nil)))))) rs_next)
theorem l__law_three : ∀ ds K E, S__law_three ds K E → ds.length = ["one", "other", "third"].length := fun _ _ _ h => h.1
theorem r__law_three {ds : List D} {Kk : D → Prop} {EE : Exc → Prop} (h : S__law_three ds Kk EE) : t__law_three EE { nx := fun _ => Kk .non, rt := Kk } (startD ["one", "other", "third"] ds) := h.2
def u__law_refused_3 (EE : Exc → Prop) : TDS := (dSeq (dSet 4 (dVal (dLst (daCons (dCall S__law_two (fun _ => EE) (daCons (dC (.fn "is_primary")) (daCons (dC (.int 4)) (daCons (dVar 2) daNil)))) (daCons (dCall S__law_two (fun _ => EE) (daCons (dC (.fn "primary_of")) (daCons (dC (.int 3)) (daCons (dVar 2) daNil)))) (daCons (dCall S__law_three (fun _ => EE) (daCons (dC (.int 4)) (daCons (dVar 2) (daCons (dVar 3) daNil)))) (daCons (dCall S__law_three (fun _ => EE) (daCons (dC (.int 3)) (daCons (dTup (daCons (dC (.int 0)) (daCons (dC (.int 0)) daNil))) (daCons (dVar 3) daNil)))) daNil))))))) (dSeq (dRet (dOp kEq (dVar 4) (dOp kAdd (dOp kMul (dLst (daCons (dTup (daCons (dC (.str "row")) (daCons (dC (.str "number")) (daCons (dB kRepr (daCons (dVar 2) daNil)) daNil)))) daNil)) (dC (.int 2))) (dLst (daCons (dTup (daCons (dC (.str "row")) (daCons (dC (.str "one")) (daCons (dB kRepr (daCons (dVar 2) daNil)) daNil)))) (daCons (dTup (daCons (dC (.str "row")) (daCons (dC (.str "other")) (daCons (dB kRepr (daCons (dVar 3) daNil)) daNil)))) daNil)))))) dNext))
theorem mu__law_refused_3 {EE EE' : Exc → Prop} (he : ∀ x, EE x → EE' x) : RS (u__law_refused_3 EE) (u__law_refused_3 EE') := (rs_seq (rs_set (rv_val (re_lst (ra_cons (re_call m__law_two (fun _ => he) (ra_cons re_c (ra_cons re_c (ra_cons re_var ra_nil)))) (ra_cons (re_call m__law_two (fun _ => he) (ra_cons re_c (ra_cons re_c (ra_cons re_var ra_nil)))) (ra_cons (re_call m__law_three (fun _ => he) (ra_cons re_c (ra_cons re_var (ra_cons re_var ra_nil)))) (ra_cons (re_call m__law_three (fun _ => he) (ra_cons re_c (ra_cons (re_tup (ra_cons re_c (ra_cons re_c ra_nil))) (ra_cons re_var ra_nil)))) ra_nil))))))) (rs_seq (rs_ret (re_op kEq_mono re_var (re_op kAdd_mono (re_op kMul_mono (re_lst (ra_cons (re_tup (ra_cons re_c (ra_cons re_c (ra_cons (re_b mRepr (ra_cons re_var ra_nil)) ra_nil)))) ra_nil)) re_c) (re_lst (ra_cons (re_tup (ra_cons re_c (ra_cons re_c (ra_cons (re_b mRepr (ra_cons re_var ra_nil)) ra_nil)))) (ra_cons (re_tup (ra_cons re_c (ra_cons re_c (ra_cons (re_b mRepr (ra_cons re_var ra_nil)) ra_nil)))) ra_nil)))))) rs_next))
def u__law_refused_2 (EE : Exc → Prop) : TDS := (dSeq (dIfS (dTest (dOp kNe (dVar 4) (dOp kMul (dLst (daCons (dTup (daCons (dC (.str "number")) (daCons (dC (.str "kind")) (daCons (dB kRepr (daCons (dVar 1) daNil)) daNil)))) daNil)) (dC (.int 3))))) (dSeq (dRet (dC (.bl false))) dNext) dNext) (u__law_refused_3 EE))
theorem mu__law_refused_2 {EE EE' : Exc → Prop} (he : ∀ x, EE x → EE' x) : RS (u__law_refused_2 EE) (u__law_refused_2 EE') := (rs_seq (rs_if (rt_test (re_op kNe_mono re_var (re_op kMul_mono (re_lst (ra_cons (re_tup (ra_cons re_c (ra_cons re_c (ra_cons (re_b mRepr (ra_cons re_var ra_nil)) ra_nil)))) ra_nil)) re_c))) (rs_seq (rs_ret re_c) rs_next) rs_next) (mu__law_refused_3 he))
def u__law_refused_1 (EE : Exc → Prop) : TDS := (dSeq (dSet 4 (dVal (dLst (daCons (dCall S__law_two (fun _ => EE) (daCons (dC (.fn "is_primary")) (daCons (dVar 1) (daCons (dVar 2) daNil)))) (daCons (dCall S__law_two (fun _ => EE) (daCons (dC (.fn "primary_of")) (daCons (dVar 1) (daCons (dVar 2) daNil)))) (daCons (dCall S__law_three (fun _ => EE) (daCons (dVar 1) (daCons (dVar 2) (daCons (dVar 3) daNil)))) daNil)))))) (u__law_refused_2 EE))
theorem mu__law_refused_1 {EE EE' : Exc → Prop} (he : ∀ x, EE x → EE' x) : RS (u__law_refused_1 EE) (u__law_refused_1 EE') := (rs_seq (rs_set (rv_val (re_lst (ra_cons (re_call m__law_two (fun _ => he) (ra_cons re_c (ra_cons re_var (ra_cons re_var ra_nil)))) (ra_cons (re_call m__law_two (fun _ => he) (ra_cons re_c (ra_cons re_var (ra_cons re_var ra_nil)))) (ra_cons (re_call m__law_three (fun _ => he) (ra_cons re_var (ra_cons re_var (ra_cons re_var ra_nil)))) ra_nil)))))) (mu__law_refused_2 he))
/-- names: pen, kind, bad, worse, told -/
def t__law_refused (EE : Exc → Prop) : TDS := (dSeq (dPar3 1 2 3 (daCons (dCall S__law_bad_kind (fun _ => EE) (daCons (dVar 0) daNil)) (daCons (dCall S__law_bad_letters (fun _ => EE) (daCons (dVar 0) daNil)) (daCons (dCall S__law_bad_letters (fun _ => EE) (daCons (dVar 0) daNil)) daNil)))) (u__law_refused_1 EE))
def S__law_refused : Spec := rdS 1 t__law_refused ["pen", "kind", "bad", "worse", "told"]
theorem m__law_refused : SMono S__law_refused := rdS_mono fun EE EE' he => (rs_seq (rs_par3 (ra_cons (re_call m__law_bad_kind (fun _ => he) (ra_cons re_var ra_nil)) (ra_cons (re_call m__law_bad_letters (fun _ => he) (ra_cons re_var ra_nil)) (ra_cons (re_call m__law_bad_letters (fun _ => he) (ra_cons re_var ra_nil)) ra_nil)))) (mu__law_refused_1 he))
theorem l__law_refused : ∀ ds K E, S__law_refused ds K E → ds.length = ["pen"].length := fun _ _ _ h => h.1
theorem r__law_refused {ds : List D} {Kk : D → Prop} {EE : Exc → Prop} (h : S__law_refused ds Kk EE) : t__law_refused EE { nx := fun _ => Kk .non, rt := Kk } (startD ["pen", "kind", "bad", "worse", "told"] ds) := h.2
/-- names: script, pen, lap; behind the first statement -/
def t_law (EE : Exc → Prop) : TDS := (dSeq (dForR (dC (.int 4)) (dgName 2) (dSeq (dIfS (dtOr (dtNot (dTru (dCall S__law_right (fun _ => EE) (daCons (dVar 1) (daCons (dCall S__law_kind (fun _ => EE) (daCons (dVar 1) daNil)) daNil))))) (dtNot (dTru (dCall S__law_refused (fun _ => EE) (daCons (dVar 1) daNil))))) (dSeq (dRet (dC (.bl false))) dNext) dNext) dNext)) (dSeq (dRet (dC (.bl true))) dNext))
end DL

set_option Elab.async false
set_option linter.all false
set_option maxRecDepth 100000
set_option maxHeartbeats 4000000
namespace DL
open PySem PySem.Spec PyProof.Rows L2 LamX
section
variable {K : D → Prop} {E : Exc → Prop} {a b c d k : Int} {n m p q : Nat}
theorem p__law_is : ∀ (n : Nat) {e d : D} {K : D → Prop} {E : Exc → Prop}, dueD d = true → tameD e = true → depE d < n → S__law_is n [e, d] K E = K (.bl (isE e d))
  | 0, _, _, _, _, _, _, h => by omega
  | n + 1, e, d, K, E, hd, he, hn => by
    cases d with
    | tup ds =>
      cases e with
      | tup es =>
        simp [dueD] at hd
        simp [tameD] at he
        simp only [depE] at hn
        by_cases hl : es.length = ds.length
        · have hz : ((ds.length : Int)) ≤ 100000 := by omega
          simp [S__law_is, hl, isE, show (ds.length : Int) < 4611686018427387904 by omega, show ¬ (n + 1 = 0) by omega]
          rw [lcT_range (f := fun i => !(match es[i]?, ds[i]? with | some a, some b => isE a b | _, _ => true)) (by omega), kEq_nil]
          · have h := isEs_range hl (fun i => !(match es[i]?, ds[i]? with | some a, some b => isE a b | _, _ => true)) (fun i e d h1 h2 => by rw [h1, h2])
            cases hq : isEs es ds with
            | true => rw [h.mpr hq]; simp
            | false =>
              have h2 : ¬ _ := fun z => by rw [h.mp z] at hq; cases hq
              simp only [h2, decide_false]
          · intro i hi
            have e1 : es[i]? = some es[i] := List.getElem?_eq_getElem (by omega)
            have e2 : ds[i]? = some ds[i] := List.getElem?_eq_getElem hi
            refine ⟨[.val (.tup es), .val (.tup ds), .val (.int i)], fun KG => by simp, fun KT => ?_, fun _ K => by simp⟩
            have ih := fun (K : D → Prop) (E : Exc → Prop) => p__law_is (K := K) (E := E) n (e := es[i]) (d := ds[i]) (dueDs_get hd.2 e2) (tameDs_get he e1) (by have := depEs_get e2; omega)
            simp [at_nat, e1, e2, ih]
        · simp [S__law_is, hl, isE, show ¬ ((es.length : Int) = (ds.length : Int)) by omega, show (es.length == ds.length) = false by simp [hl]]
      | _ => first | (simp [tameD] at he; done) | simp [S__law_is, isE]
    | non =>
      cases e <;> first | (simp [tameD] at he; done) | simp [S__law_is, isE, dIsNon]
    | bl b => 
      cases e with
      | bl c => cases c <;> cases b <;> simp [S__law_is, isE]
      | _ => cases b <;> first | (simp [tameD] at he; done) | simp [S__law_is, isE]
    | int m => 
      cases e <;> first | (simp [tameD] at he; done) | simp [S__law_is, isE]
    | str s => 
      simp [dueD] at hd
      cases e <;> first | (simp [tameD] at he; done) | (simp [tameD] at he; simp [S__law_is, isE, hd, he]) | simp [S__law_is, isE]
    | _ => simp [dueD] at hd
@[simp] theorem p_is {e d : D} (h1 : dueD d = true) (h2 : tameD e = true) (h3 : depE d ≤ 3) : S__law_is RN__law_is [e, d] K E = K (.bl (isE e d)) := p__law_is _ h1 h2 (Nat.lt_succ_of_le h3)
theorem p__law_draw {m : Int} (h0 : 0 < m) (h1 : m < 1000000000) : S__law_draw [.pen, .int m] K E = ∀ r, 0 ≤ r → r < m → K (.int r) := p_draw h0 h1
theorem p__law_pick {xs : List D} (h0 : 0 < xs.length) (h1 : xs.length < 1000000) (h : ∀ d ∈ xs, K d) : S__law_pick [.pen, .lst xs] K E := by
  simp [S__law_pick, t__law_pick]
  rw [p__law_draw (by omega) (by omega)]
  intro r r0 r1
  obtain ⟨x, e, hx⟩ := at_lt r0 r1
  simpa using ⟨x, e, h x hx⟩
theorem wide1 {N : DEnds} {F o : Int} : ∀ (its : List D) (found : Int) (s : Slot), 0 ≤ found → (∀ r s, 0 ≤ r → N.nx [.val .pen, .val (.int F), .val (.int r), .val (.int o), s]) →
    turns (dgName 4) (dSeq (dSet 2 (dVal (dOp kAdd (dOp kMul (dVar 2) (dOp kPow (dC (.int 10)) (dC (.int 6)))) (dCall S__law_draw (fun _ => E) (daCons (dVar 0) (daCons (dOp kPow (dC (.int 10)) (dC (.int 6))) daNil)))))) dNext) N its [.val .pen, .val (.int F), .val (.int found), .val (.int o), s]
  | [], found, s, h0, h => by simpa using h found s h0
  | d :: its, found, s, h0, h => by
    simp
    rw [p__law_draw (by omega) (by omega)]
    intro r r0 r1
    simp
    exact wide1 its _ _ (by omega) h
theorem wide2 {N : DEnds} {F found : Int} : ∀ (its : List D) (k : Nat) (s : Slot), (∀ s, N.nx [.val .pen, .val (.int F), .val (.int found), .val (.int (10 ^ (k + its.length))), s]) →
    turns (dgName 4) (dSeq (dSet 3 (dVal (dOp kMul (dVar 3) (dC (.int 10))))) dNext) N its [.val .pen, .val (.int F), .val (.int found), .val (.int (10 ^ k)), s]
  | [], k, s, h => by simpa using h s
  | d :: its, k, s, h => by
    simp
    rw [← Int.pow_succ]
    exact wide2 its (k + 1) _ (fun s => by have := h s; rw [List.length_cons] at this; rwa [show k + 1 + its.length = k + (its.length + 1) by omega])
theorem p__law_wide {f : Int} {F : Nat} (hf : f = F) (h0 : F ≤ 10000) (h : ∀ r : Int, 0 ≤ r → r < 10 ^ F → K (.int r)) : S__law_wide [.pen, .int f] K E := by
  subst hf
  simp [S__law_wide, t__law_wide]
  refine ⟨by omega, by omega, wide1 _ 0 _ (by omega) fun r s hr => ?_⟩
  simp
  refine ⟨by omega, wide2 (rangeD 0 F) 0 s fun s => ?_⟩
  have e : 0 + (rangeD 0 (F : Int)).length = F := by simp
  rw [e]
  have hp : (0 : Int) < 10 ^ F := Int.pow_pos (by decide)
  simp [hp]
  exact h _ (Int.emod_nonneg _ (by omega)) (Int.emod_lt_of_pos _ hp)
theorem p__law_signed {f : Int} {F : Nat} (hf : f = F) (h0 : F ≤ 10000) (h : ∀ r : Int, -(10 ^ F) < r → r < 10 ^ F → K (.int r)) : S__law_signed [.pen, .int f] K E := by
  simp [S__law_signed, t__law_signed]
  rw [p__law_draw (by omega) (by omega)]
  intro r r0 r1
  simp
  refine p__law_wide hf h0 fun w w0 w1 => ?_
  rw [k_mul_l (by omega)]
  have : r = 0 ∨ r = 1 := by omega
  rcases this with rfl | rfl
  · exact h _ (by omega) (by omega)
  · exact h _ (by omega) (by omega)
theorem p__law_letters {f : Int} {F : Nat} (hf : f = F) (h0 : F ≤ 10000) (h : ∀ a b : Int, -(10 ^ F) < a → a < 10 ^ F → -(10 ^ F) < b → b < 10 ^ F → K (.tup [.int a, .int b])) : S__law_letters [.pen, .int f] K E := by
  simp [S__law_letters, t__law_letters]
  refine p__law_signed hf h0 fun a a0 a1 => ?_
  refine p__law_signed hf h0 fun b b0 b1 => ?_
  simpa using h a b a0 a1 b0 b1
theorem p__law_kind (h4 : K (.int 4)) (h3 : K (.int 3)) : S__law_kind [.pen] K E := by
  simp [S__law_kind, t__law_kind]
  exact p__law_pick (by simp) (by simp) (by simp [h4, h3])
@[simp] theorem p_is_integer1 {n : Int} : S_is_integer [.int n] K E = K (.bl true) := by
  simp [S_is_integer, t_is_integer]
@[simp] theorem p_is_integer0 : S_is_integer [.non] K E = K (.bl false) := by simp [S_is_integer, t_is_integer]
@[simp] theorem p_is_integer2 {b : Bool} : S_is_integer [.bl b] K E = K (.bl false) := by simp [S_is_integer, t_is_integer]
@[simp] theorem p_is_integer3 {s : Str} : S_is_integer [.str s] K E = K (.bl false) := by simp [S_is_integer, t_is_integer]
@[simp] theorem p_is_integer4 {s : List D} : S_is_integer [.tup s] K E = K (.bl false) := by simp [S_is_integer, t_is_integer]
theorem p_says {x y : Bool} : S__law_says [.bl x, .bl y] K E = K (.bl (x == y)) := by
  cases x <;> cases y <;> simp [S__law_says, t__law_says]
structure BadK (d : D) : Prop where
  h : ∀ K E, S_need_kind [d] K E = E ⟨"BadNumber", [("what", .str "kind"), ("number", d)]⟩
  s : Shw d
structure BadL (d : D) : Prop where
  h : ∀ w K E, S_need_letters [d, w] K E = E ⟨"BadRow", [("what", w), ("row", d)]⟩
  s : Shw d
theorem p__law_bad_kind (h : ∀ d, BadK d → K d) : S__law_bad_kind [.pen] K E := by
  simp [S__law_bad_kind, t__law_bad_kind]
  refine p__law_pick (by simp) (by simp) fun d hd => h d ?_
  simp only [List.mem_cons, List.not_mem_nil, or_false] at hd
  rcases hd with rfl | rfl | rfl | rfl | rfl | rfl | rfl | rfl | rfl | rfl <;> exact ⟨fun K E => by simp [S_need_kind, t_need_kind], shw_of (by decide +kernel)⟩
theorem p__law_bad_letters (h : ∀ d, BadL d → K d) : S__law_bad_letters [.pen] K E := by
  simp [S__law_bad_letters, t__law_bad_letters]
  refine p__law_pick (by simp) (by simp) fun d hd => h d ?_
  simp only [List.mem_cons, List.not_mem_nil, or_false] at hd
  rcases hd with rfl | rfl | rfl | rfl | rfl | rfl | rfl | rfl | rfl | rfl | rfl | rfl | rfl | rfl <;> exact ⟨fun w K E => by simp [S_need_letters, t_need_letters, S_is_list, t_is_list, S_is_letters, t_is_letters], shw_of (by decide +kernel)⟩
end
end DL

set_option Elab.async false
set_option linter.all false
set_option maxRecDepth 100000
set_option maxHeartbeats 4000000
namespace DL
open PySem PySem.Spec PyProof.Rows L2 LamX
section
variable {K : D → Prop} {E : Exc → Prop} {a b c d k : Int} {n m p q : Nat}
abbrev PP (a b : Int) : D := .tup [.int a, .int b]
@[simp] theorem p_is_list1 {xs : List D} : S_is_list [.tup xs] K E = K (.bl true) := by simp [S_is_list, t_is_list]
@[simp] theorem p_is_list2 {xs : List D} : S_is_list [.lst xs] K E = K (.bl true) := by simp [S_is_list, t_is_list]
@[simp] theorem p_need_kind4 : S_need_kind [.int 4] K E = K .non := by simp [S_need_kind, t_need_kind]
@[simp] theorem p_need_kind3 : S_need_kind [.int 3] K E = K .non := by simp [S_need_kind, t_need_kind]
def Lt (a : Int) : Prop := -1000000000000000000000000000000 ≤ a ∧ a ≤ 1000000000000000000000000000000
theorem abs_lt (h : Lt a) : decide ((if a < 0 then -a else a) ≤ 1000000000000000000000000000000) = true := by
  unfold Lt at h
  apply decide_eq_true
  split <;> omega
@[simp] theorem p_is_letters (ha : Lt a) (hb : Lt b) : S_is_letters [PP a b] K E = K (.bl true) := by
  simp [S_is_letters, t_is_letters, abs_lt ha, abs_lt hb]
@[simp] theorem p_need_letters1 {w : D} (ha : Lt a) (hb : Lt b) : S_need_letters [PP a b, w] K E = K (PP a b) := by
  simp [S_need_letters, t_need_letters, ha, hb]
@[simp] theorem p_need_letters2 {w : D} (ha : Lt a) (hb : Lt b) : S_need_letters [.lst [.int a, .int b], w] K E = K (PP a b) := by
  simp [S_need_letters, t_need_letters, ha, hb]
/-! letters -/
def nrm (k a b : Int) : Int := if k = 4 then a * a + b * b else a * a - a * b + b * b
@[simp] theorem p_norm_by [Bn n a] [Bn m b] (hn : n ≤ 2000) (hm : m ≤ 2000) : S_norm_by [.int k, PP a b] K E = K (.int (nrm k a b)) := by
  have i1 : Bn 2000 a := Bn.up ‹_› hn
  have i2 : Bn 2000 b := Bn.up ‹_› hm
  by_cases h : k = 4
  · simp [S_norm_by, t_norm_by, h, nrm]
  · simp [S_norm_by, t_norm_by, h, nrm]

instance [Bn n a] [Bn m b] : Bn (n + n + (m + m) + 1 + (n + n + (n + m) + 1 + (m + m) + 1)) (nrm k a b) := by
  unfold nrm
  by_cases h : k = 4
  · rw [if_pos h]; exact Bn.up (inferInstance : Bn _ (a * a + b * b)) (by omega)
  · rw [if_neg h]; exact Bn.up (inferInstance : Bn _ (a * a - a * b + b * b)) (by omega)
def ot0 (k a b : Int) : Int := if k = 4 then a else a - b
instance [Bn n a] [Bn m b] : Bn (n + m + 1) (ot0 k a b) := by
  unfold ot0
  by_cases h : k = 4
  · rw [if_pos h]; exact Bn.up ‹Bn n a› (by omega)
  · rw [if_neg h]; exact inferInstance
@[simp] theorem p_other_by : S_other_by [.int k, PP a b] K E = K (PP (ot0 k a b) (-b)) := by
  by_cases h : k = 4
  · simp [S_other_by, t_other_by, h, ot0]
  · simp [S_other_by, t_other_by, h, ot0]
def pr1 (k a b c d : Int) : Int := if k = 4 then a * d + b * c else a * d + b * c - b * d
instance [Bn n a] [Bn m b] [Bn p c] [Bn q d] : Bn (n + q + (m + p) + 1 + (m + q) + 1) (pr1 k a b c d) := by
  unfold pr1
  by_cases h : k = 4
  · rw [if_pos h]; exact Bn.up (inferInstance : Bn _ (a * d + b * c)) (by omega)
  · rw [if_neg h]; exact inferInstance
@[simp] theorem p_product_by [Bn n a] [Bn m b] [Bn p c] [Bn q d] (hn : n ≤ 100000) (hm : m ≤ 100000) (hp : p ≤ 100000) (hq : q ≤ 100000) : S_product_by [.int k, PP a b, PP c d] K E = K (PP (a * c - b * d) (pr1 k a b c d)) := by
  have i1 : Bn 100000 a := Bn.up ‹_› hn
  have i2 : Bn 100000 b := Bn.up ‹_› hm
  have i3 : Bn 100000 c := Bn.up ‹_› hp
  have i4 : Bn 100000 d := Bn.up ‹_› hq
  by_cases h : k = 4
  · simp [S_product_by, t_product_by, h, pr1]
  · simp [S_product_by, t_product_by, h, pr1]
@[simp] theorem p_less_by : S_less_by [PP a b, PP c d] K E = K (PP (a - c) (b - d)) := by simp [S_less_by, t_less_by]
/-! dividing -/
theorem nrm_pos (hk : k = 4 ∨ k = 3) (h : ¬ (a = 0 ∧ b = 0)) : 0 < nrm k a b := by
  unfold nrm
  have h1 : 0 ≤ a * a := sq_nn a
  have h2 : 0 ≤ b * b := sq_nn b
  have h3 : 0 ≤ (a - b) * (a - b) := sq_nn _
  have h4 : a * a + b * b ≠ 0 := by
    intro z
    have z1 : a * a = 0 := by omega
    have z2 : b * b = 0 := by omega
    exact h ⟨(Int.mul_eq_zero.mp z1).elim id id, (Int.mul_eq_zero.mp z2).elim id id⟩
  by_cases hk4 : k = 4
  · rw [if_pos hk4]; omega
  · rw [if_neg hk4]; grind
def qu (t n : Int) : Int := (2 * t + n) / (2 * n)
def dv0 (k a b c d : Int) : Int := qu (a * ot0 k c d - b * -d) (nrm k c d)
def dv1 (k a b c d : Int) : Int := qu (pr1 k a b (ot0 k c d) (-d)) (nrm k c d)
@[simp] theorem p_quotient_by [Bn n a] [Bn m b] [Bn p c] [Bn q d] (hn : n ≤ 500) (hm : m ≤ 500) (hp : p ≤ 500) (hq : q ≤ 500) (h0 : 0 < nrm k c d) : S_quotient_by [.int k, PP a b, PP c d] K E = K (PP (dv0 k a b c d) (dv1 k a b c d)) := by
  have i1 : Bn 500 a := Bn.up ‹_› hn
  have i2 : Bn 500 b := Bn.up ‹_› hm
  have i3 : Bn 500 c := Bn.up ‹_› hp
  have i4 : Bn 500 d := Bn.up ‹_› hq
  have h1 : 0 < 2 * nrm k c d := by omega
  simp [S_quotient_by, t_quotient_by, h1, dv0, dv1, qu]

theorem bn_dv0 [i1 : Bn 500 a] [i2 : Bn 500 b] [i3 : Bn 500 c] [i4 : Bn 500 d] : Bn 20000 (dv0 k a b c d) :=
  Bn.up (n := _) (show Bn _ ((2 * (a * ot0 k c d - b * -d) + nrm k c d) / (2 * nrm k c d)) from inferInstance) (by decide +kernel)
theorem bn_dv1 [i1 : Bn 500 a] [i2 : Bn 500 b] [i3 : Bn 500 c] [i4 : Bn 500 d] : Bn 20000 (dv1 k a b c d) :=
  Bn.up (n := _) (show Bn _ ((2 * (pr1 k a b (ot0 k c d) (-d)) + nrm k c d) / (2 * nrm k c d)) from inferInstance) (by decide +kernel)
def re0 (k a b c d : Int) : Int := a - (dv0 k a b c d * c - dv1 k a b c d * d)
def re1 (k a b c d : Int) : Int := b - pr1 k (dv0 k a b c d) (dv1 k a b c d) c d
@[simp] theorem p_rest_by [Bn n a] [Bn m b] [Bn p c] [Bn q d] (hn : n ≤ 500) (hm : m ≤ 500) (hp : p ≤ 500) (hq : q ≤ 500) (h0 : 0 < nrm k c d) : S_rest_by [.int k, PP a b, PP c d] K E = K (PP (re0 k a b c d) (re1 k a b c d)) := by
  have i1 : Bn 500 a := Bn.up ‹_› hn
  have i2 : Bn 500 b := Bn.up ‹_› hm
  have i3 : Bn 500 c := Bn.up ‹_› hp
  have i4 : Bn 500 d := Bn.up ‹_› hq
  have i5 : Bn 20000 (dv0 k a b c d) := bn_dv0
  have i6 : Bn 20000 (dv1 k a b c d) := bn_dv1
  simp [S_rest_by, t_rest_by, h0, re0, re1]

@[simp] theorem p_goes_by [Bn n a] [Bn m b] [Bn p c] [Bn q d] (hn : n ≤ 500) (hm : m ≤ 500) (hp : p ≤ 500) (hq : q ≤ 500) (h0 : 0 < nrm k c d) : S_goes_by [.int k, PP c d, PP a b] K E = K (.bl (re0 k a b c d == 0 && re1 k a b c d == 0)) := by
  have i1 : Bn 500 a := Bn.up ‹_› hn
  have i2 : Bn 500 b := Bn.up ‹_› hm
  have i3 : Bn 500 c := Bn.up ‹_› hp
  have i4 : Bn 500 d := Bn.up ‹_› hq
  simp [S_goes_by, t_goes_by, h0]
@[simp] theorem p_units_by4 : S_units_by [.int 4] K E = K (.lst [PP 1 0, PP 0 1, PP (-1) 0, PP 0 (-1)]) := by
  simp [S_units_by, t_units_by, pr1]
@[simp] theorem p_units_by3 : S_units_by [.int 3] K E = K (.lst [PP 1 0, PP 1 1, PP 0 1, PP (-1) 0, PP (-1) (-1), PP 0 (-1)]) := by
  simp [S_units_by, t_units_by, pr1]
@[simp] theorem p_need_kind (hk : k = 4 ∨ k = 3) : S_need_kind [.int k] K E = K .non := by rcases hk with rfl | rfl <;> simp
theorem bn_lt (hk : k = 4 ∨ k = 3) {a : Int} (h : Lt a) : Bn 100 a := bn_of (by unfold Lt at h; omega) (by unfold Lt at h; omega)
end
end DL

set_option Elab.async false
set_option linter.all false
set_option maxRecDepth 100000
set_option maxHeartbeats 4000000
namespace DL
open PySem PySem.Spec PyProof.Rows L2 LamX
section
variable {K : D → Prop} {E : Exc → Prop} {a b c d k : Int} {n m p q : Nat}
theorem qu_lo {t n : Int} (h : 0 < n) : -n ≤ 2 * (t - n * qu t n) ∧ 2 * (t - n * qu t n) ≤ n := by
  unfold qu
  have h1 := Int.mul_ediv_add_emod (2 * t + n) (2 * n)
  have h2 := Int.emod_nonneg (2 * t + n) (show 2 * n ≠ 0 by omega)
  have h3 := Int.emod_lt_of_pos (2 * t + n) (show 0 < 2 * n by omega)
  have e : 2 * n * ((2 * t + n) / (2 * n)) = 2 * (n * ((2 * t + n) / (2 * n))) := by grind
  omega
theorem qu_of {n m : Int} (h : 0 < n) : qu (n * m) n = m := by
  unfold qu
  rw [show 2 * (n * m) + n = n + (2 * n) * m by grind, Int.add_mul_ediv_left _ _ (by omega), Int.ediv_eq_zero_of_lt (by omega) (by omega)]
  omega
abbrev t0 (k a b c d : Int) : Int := a * ot0 k c d - b * -d
abbrev t1 (k a b c d : Int) : Int := pr1 k a b (ot0 k c d) (-d)
theorem dv0_eq : dv0 k a b c d = qu (t0 k a b c d) (nrm k c d) := rfl
theorem dv1_eq : dv1 k a b c d = qu (t1 k a b c d) (nrm k c d) := rfl
/-- the rest times the other one: what is left of the letters -/
theorem rest_t (hk : k = 4 ∨ k = 3) : t0 k (re0 k a b c d) (re1 k a b c d) c d = t0 k a b c d - nrm k c d * dv0 k a b c d ∧ t1 k (re0 k a b c d) (re1 k a b c d) c d = t1 k a b c d - nrm k c d * dv1 k a b c d := by
  unfold re0 re1
  generalize dv0 k a b c d = q0
  generalize dv1 k a b c d = q1
  rcases hk with rfl | rfl <;> simp only [t0, t1, ot0, pr1, nrm] <;> simp <;> constructor <;> grind
theorem nrm_t (hk : k = 4 ∨ k = 3) : nrm k (t0 k a b c d) (t1 k a b c d) = nrm k c d * nrm k a b := by
  rcases hk with rfl | rfl <;> simp only [t0, t1, ot0, pr1, nrm] <;> simp <;> grind
theorem sq_le {x n : Int} (h1 : -n ≤ 2*x) (h2 : 2*x ≤ n) : 4*(x*x) ≤ n*n := by
  have h := Int.mul_nonneg (show 0 ≤ n - 2*x by omega) (show 0 ≤ n+2*x by omega)
  grind
theorem le3 {x y n : Int} (h1 : -n ≤ 2*x) (h2 : 2*x ≤ n) (h3 : -n ≤ 2*y) (h4 : 2*y ≤ n) : 4*(x*x-x*y+y*y) ≤ 3*(n*n) := by
  have := sq_le h1 h2
  have := sq_le h3 h4
  have h := Int.mul_nonneg (show 0 ≤ n - 2*x by omega) (show 0 ≤ n-2*y by omega)
  have h := Int.mul_nonneg (show 0 ≤ n + 2*x by omega) (show 0 ≤ n+2*y by omega)
  grind
theorem rest_le (hk : k = 4 ∨ k = 3) (h : 0 < nrm k c d) : 4 * nrm k (re0 k a b c d) (re1 k a b c d) ≤ (if k = 4 then 2 else 3) * nrm k c d := by
  have e := nrm_t (a := re0 k a b c d) (b := re1 k a b c d) (c := c) (d := d) hk
  obtain ⟨e0, e1⟩ := rest_t (a := a) (b := b) (c := c) (d := d) hk
  obtain ⟨l0, u0⟩ := qu_lo (t := t0 k a b c d) h
  obtain ⟨l1, u1⟩ := qu_lo (t := t1 k a b c d) h
  rw [← dv0_eq, ← e0] at l0 u0
  rw [← dv1_eq, ← e1] at l1 u1
  generalize t0 k (re0 k a b c d) (re1 k a b c d) c d = s0 at *
  generalize t1 k (re0 k a b c d) (re1 k a b c d) c d = s1 at *
  generalize nrm k (re0 k a b c d) (re1 k a b c d) = m at *
  generalize nrm k c d = n at *
  have key : n * (4 * m) ≤ n * ((if k = 4 then 2 else 3) * n) := by
    rw [show n * (4 * m) = 4 * (n * m) by grind, ← e]
    rcases hk with rfl | rfl
    · have := sq_le l0 u0
      have := sq_le l1 u1
      simp [nrm]; grind
    · have := le3 l0 u0 l1 u1
      simp [nrm]; grind
  exact Int.le_of_mul_le_mul_left key h
theorem t_zero (hk : k = 4 ∨ k = 3) (h : 0 < nrm k c d) (h0 : t0 k a b c d = 0) (h1 : t1 k a b c d = 0) : a = 0 ∧ b = 0 := by
  have e := nrm_t (a := a) (b := b) (c := c) (d := d) hk
  rw [h0, h1] at e
  have z : nrm k c d * nrm k a b = 0 := by rw [← e]; simp [nrm]
  rcases Int.mul_eq_zero.mp z with z | z
  · omega
  · by_cases q : a = 0 ∧ b = 0
    · exact q
    · have := nrm_pos hk q; omega
theorem goes_iff (hk : k = 4 ∨ k = 3) (h : 0 < nrm k c d) : (re0 k a b c d = 0 ∧ re1 k a b c d = 0) ↔ (t0 k a b c d % nrm k c d = 0 ∧ t1 k a b c d % nrm k c d = 0) := by
  obtain ⟨e0, e1⟩ := rest_t (a := a) (b := b) (c := c) (d := d) hk
  constructor
  · intro ⟨h0, h1⟩
    rw [h0, h1] at e0 e1
    have z0 : t0 k 0 0 c d = 0 := by simp [t0]
    have z1 : t1 k 0 0 c d = 0 := by simp [t1, pr1]
    rw [z0] at e0; rw [z1] at e1
    rw [show t0 k a b c d = nrm k c d * dv0 k a b c d by omega, show t1 k a b c d = nrm k c d * dv1 k a b c d by omega]
    exact ⟨Int.mul_emod_right _ _, Int.mul_emod_right _ _⟩
  · intro ⟨h0, h1⟩
    obtain ⟨m0, h0⟩ := Int.dvd_of_emod_eq_zero h0
    obtain ⟨m1, h1⟩ := Int.dvd_of_emod_eq_zero h1
    have d0 : dv0 k a b c d = m0 := by rw [dv0_eq, h0, qu_of h]
    have d1 : dv1 k a b c d = m1 := by rw [dv1_eq, h1, qu_of h]
    rw [d0, h0, Int.sub_self] at e0
    rw [d1, h1, Int.sub_self] at e1
    exact t_zero hk h e0 e1
theorem self_other (hk : k = 4 ∨ k = 3) : a * ot0 k a b - b * -b = nrm k a b ∧ pr1 k a b (ot0 k a b) (-b) = 0 := by
  rcases hk with rfl | rfl <;> simp only [ot0, pr1, nrm] <;> simp <;> grind
@[simp] theorem p__law_norm [Bn n a] [Bn m b] (hn : n ≤ 100000) (hm : m ≤ 100000) : S__law_norm [.int k, PP a b] K E = K (.int (nrm k a b)) := by
  have i1 : Bn 100000 a := Bn.up ‹_› hn
  have i2 : Bn 100000 b := Bn.up ‹_› hm
  by_cases h : k = 4
  · simp [S__law_norm, t__law_norm, h, nrm]
  · simp [S__law_norm, t__law_norm, h, nrm]
@[simp] theorem p__law_other : S__law_other [.int k, PP a b] K E = K (PP (ot0 k a b) (-b)) := by
  by_cases h : k = 4
  · simp [S__law_other, t__law_other, h, ot0]
  · simp [S__law_other, t__law_other, h, ot0]
@[simp] theorem p__law_product [Bn n a] [Bn m b] [Bn p c] [Bn q d] (hn : n ≤ 100000) (hm : m ≤ 100000) (hp : p ≤ 100000) (hq : q ≤ 100000) : S__law_product [.int k, PP a b, PP c d] K E = K (PP (a * c - b * d) (pr1 k a b c d)) := by
  have i1 : Bn 100000 a := Bn.up ‹_› hn
  have i2 : Bn 100000 b := Bn.up ‹_› hm
  have i3 : Bn 100000 c := Bn.up ‹_› hp
  have i4 : Bn 100000 d := Bn.up ‹_› hq
  by_cases h : k = 4
  · simp [S__law_product, t__law_product, h, pr1]
  · simp [S__law_product, t__law_product, h, pr1]
@[simp] theorem p__law_less : S__law_less [PP a b, PP c d] K E = K (PP (a - c) (b - d)) := by simp [S__law_less, t__law_less]
@[simp] theorem p__law_goes [Bn n a] [Bn m b] [Bn p c] [Bn q d] (hn : n ≤ 500) (hm : m ≤ 500) (hp : p ≤ 500) (hq : q ≤ 500) (h : 0 < nrm k c d) : S__law_goes [.int k, PP c d, PP a b] K E = K (.bl (decide (t0 k a b c d % nrm k c d = 0) && decide (t1 k a b c d % nrm k c d = 0))) := by
  have i1 : Bn 500 a := Bn.up ‹_› hn
  have i2 : Bn 500 b := Bn.up ‹_› hm
  have i3 : Bn 500 c := Bn.up ‹_› hp
  have i4 : Bn 500 d := Bn.up ‹_› hq
  simp [S__law_goes, t__law_goes, h]
  by_cases z : (a * ot0 k c d - b * -d) % nrm k c d = 0
  · rw [if_pos z, decide_eq_true (p := t0 k a b c d % nrm k c d = 0) z, Bool.true_and]; exact Iff.rfl
  · rw [if_neg z, decide_eq_false (p := t0 k a b c d % nrm k c d = 0) z, Bool.false_and]
@[simp] theorem p__law_units : S__law_units [.int k] K E = K (.tup (if k = 4 then [PP 1 0, PP 0 1, PP (-1) 0, PP 0 (-1)] else [PP 1 0, PP 1 1, PP 0 1, PP (-1) 0, PP (-1) (-1), PP 0 (-1)])) := by
  by_cases h : k = 4
  · simp [S__law_units, t__law_units, h]
  · simp [S__law_units, t__law_units, h]
/-! ### numbers of two letters -/
abbrev Z2 := Int × Int
def mu (k : Int) (x y : Z2) : Z2 := (x.1 * y.1 - x.2 * y.2, pr1 k x.1 x.2 y.1 y.2)
def N2 (k : Int) (x : Z2) : Int := nrm k x.1 x.2
def cj (k : Int) (x : Z2) : Z2 := (ot0 k x.1 x.2, -x.2)
section
variable {x y z u v w : Z2}
theorem mu_comm (hk : k = 4 ∨ k = 3) : mu k x y = mu k y x := by
  rcases hk with rfl | rfl <;> simp only [mu, pr1] <;> simp <;> constructor <;> grind
theorem mu_assoc (hk : k = 4 ∨ k = 3) : mu k (mu k x y) z = mu k x (mu k y z) := by
  rcases hk with rfl | rfl <;> simp only [mu, pr1] <;> simp <;> constructor <;> grind
theorem N_mu (hk : k = 4 ∨ k = 3) : N2 k (mu k x y) = N2 k x * N2 k y := by
  rcases hk with rfl | rfl <;> simp only [mu, pr1, N2, nrm] <;> simp <;> grind
theorem mu_one (hk : k = 4 ∨ k = 3) : mu k x (1, 0) = x := by
  rcases hk with rfl | rfl <;> simp [mu, pr1]
theorem one_mu (hk : k = 4 ∨ k = 3) : mu k (1, 0) x = x := by rw [mu_comm hk, mu_one hk]
theorem mu_cj (hk : k = 4 ∨ k = 3) : mu k x (cj k x) = (N2 k x, 0) := by
  rcases hk with rfl | rfl <;> simp only [mu, pr1, cj, N2, nrm, ot0] <;> simp <;> grind
theorem N_nn (hk : k = 4 ∨ k = 3) : 0 ≤ N2 k x := by
  by_cases h : x.1 = 0 ∧ x.2 = 0
  · unfold N2; rw [h.1, h.2]; simp [nrm]
  · exact Int.le_of_lt (nrm_pos hk h)
theorem N_pos (hk : k = 4 ∨ k = 3) (h : x ≠ (0, 0)) : 0 < N2 k x := nrm_pos hk fun ⟨h1, h2⟩ => h (Prod.ext h1 h2)
theorem N_zero (hk : k = 4 ∨ k = 3) (h : N2 k x = 0) : x = (0, 0) := by
  rcases Classical.em (x = (0, 0)) with e | e
  · exact e
  · have := N_pos hk e; omega
theorem N0 : N2 k (0, 0) = 0 := by simp [N2, nrm]
theorem mu0 : mu k (0, 0) x = (0, 0) := by simp [mu, pr1]
theorem mu_ne (hk : k = 4 ∨ k = 3) (h1 : x ≠ (0, 0)) (h2 : y ≠ (0, 0)) : mu k x y ≠ (0, 0) := fun e => by
  have h := N_mu hk (x := x) (y := y)
  rw [e, N0] at h
  have := Int.mul_pos (N_pos hk h1) (N_pos hk h2)
  omega
theorem mu_zero (hk : k = 4 ∨ k = 3) (h : mu k x y = (0, 0)) (h1 : x ≠ (0, 0)) : y = (0, 0) := by
  rcases Classical.em (y = (0, 0)) with e | e
  · exact e
  · exact (mu_ne hk h1 e h).elim
def su (x y : Z2) : Z2 := (x.1 - y.1, x.2 - y.2)
theorem mu_su (hk : k = 4 ∨ k = 3) : mu k z (su x y) = su (mu k z x) (mu k z y) := by
  rcases hk with rfl | rfl <;> simp only [mu, pr1, su] <;> simp <;> constructor <;> grind
theorem su_zero (h : su x y = (0, 0)) : x = y := by
  unfold su at h
  injection h with h1 h2
  exact Prod.ext (by omega) (by omega)
theorem su_self : su x x = (0, 0) := by unfold su; rw [Int.sub_self, Int.sub_self]
theorem mu_cancel (hk : k = 4 ∨ k = 3) (h1 : z ≠ (0, 0)) (h : mu k z x = mu k z y) : x = y := by
  refine su_zero (mu_zero hk (x := z) ?_ h1)
  rw [mu_su hk, h, su_self]
/-- y goes into x -/
def Dv2 (k : Int) (y x : Z2) : Prop := ∃ q, x = mu k q y
theorem dv_refl (hk : k = 4 ∨ k = 3) : Dv2 k x x := ⟨(1, 0), (one_mu hk).symm⟩
theorem dv_trans (hk : k = 4 ∨ k = 3) (h1 : Dv2 k x y) (h2 : Dv2 k y z) : Dv2 k x z := by
  obtain ⟨p, rfl⟩ := h1
  obtain ⟨q, rfl⟩ := h2
  exact ⟨mu k q p, (mu_assoc hk).symm⟩
theorem dv_mul (hk : k = 4 ∨ k = 3) (h : Dv2 k x y) : Dv2 k x (mu k z y) := by
  obtain ⟨q, rfl⟩ := h
  exact ⟨mu k z q, (mu_assoc hk).symm⟩
theorem dv_su (hk : k = 4 ∨ k = 3) (h1 : Dv2 k z x) (h2 : Dv2 k z y) : Dv2 k z (su x y) := by
  obtain ⟨p, rfl⟩ := h1
  obtain ⟨q, rfl⟩ := h2
  exact ⟨su p q, by rw [mu_comm hk (x := su p q), mu_su hk, mu_comm hk (x := z) (y := p), mu_comm hk (x := z) (y := q)]⟩
theorem dv_zero : Dv2 k x (0, 0) := ⟨(0, 0), mu0.symm⟩
theorem zero_dv (h : Dv2 k (0, 0) x) : x = (0, 0) := by
  obtain ⟨q, e⟩ := h
  rw [e]; simp [mu, pr1]
/-- quotient, rest -/
def dq (k : Int) (x y : Z2) : Z2 := (dv0 k x.1 x.2 y.1 y.2, dv1 k x.1 x.2 y.1 y.2)
def rs (k : Int) (x y : Z2) : Z2 := (re0 k x.1 x.2 y.1 y.2, re1 k x.1 x.2 y.1 y.2)
theorem rs_eq : rs k x y = su x (mu k (dq k x y) y) := rfl
theorem rs_le (hk : k = 4 ∨ k = 3) (h : y ≠ (0, 0)) : 4 * N2 k (rs k x y) ≤ 3 * N2 k y := by
  have h1 := rest_le (a := x.1) (b := x.2) hk (N_pos hk h)
  have h2 := N_pos hk h
  show 4 * nrm k (re0 k x.1 x.2 y.1 y.2) (re1 k x.1 x.2 y.1 y.2) ≤ 3 * nrm k y.1 y.2
  have h3 : 0 < nrm k y.1 y.2 := h2
  split at h1 <;> omega
theorem rs_zero (hk : k = 4 ∨ k = 3) (h : y ≠ (0, 0)) : rs k x y = (0, 0) ↔ Dv2 k y x := by
  constructor
  · intro e
    rw [rs_eq] at e
    exact ⟨dq k x y, su_zero e⟩
  · intro ⟨q, e⟩
    -- the rest is a multiple of less norm
    have h1 : rs k x y = mu k (su q (dq k x y)) y := by
      rw [rs_eq, e, mu_comm hk (x := su q (dq k (mu k q y) y)), mu_su hk, mu_comm hk (x := y) (y := q), mu_comm hk (x := y) (y := dq k (mu k q y) y)]
    have h2 := rs_le (x := x) hk h
    rw [h1, N_mu hk] at h2
    have h3 := N_pos hk h
    have h4 := N_nn (x := su q (dq k x y)) hk
    rcases Classical.em (N2 k (su q (dq k x y)) = 0) with z | z
    · rw [h1, N_zero hk z, mu0]
    · have : 1 * N2 k y ≤ N2 k (su q (dq k x y)) * N2 k y := Int.mul_le_mul_of_nonneg_right (by omega) (by omega)
      omega
theorem dq_eq (hk : k = 4 ∨ k = 3) (h : y ≠ (0, 0)) (hd : Dv2 k y x) : x = mu k (dq k x y) y := by
  have e := (rs_zero hk h).mpr hd
  rw [rs_eq] at e
  exact su_zero e
theorem dq_mu (hk : k = 4 ∨ k = 3) (h : y ≠ (0, 0)) : dq k (mu k x y) y = x := by
  have e := dq_eq hk h (x := mu k x y) ⟨x, rfl⟩
  have e2 : mu k y x = mu k y (dq k (mu k x y) y) := by
    rw [mu_comm hk (x := y) (y := x), mu_comm hk (x := y) (y := dq k (mu k x y) y)]; exact e
  exact (mu_cancel hk h e2).symm
/-! the even prime, its powers -/
def evz (k : Int) : Z2 := (1, if k = 4 then 1 else -1)
theorem evz_ne : evz k ≠ (0, 0) := fun e => by
  injection e with e1 e2; omega
theorem N_ev (hk : k = 4 ∨ k = 3) : N2 k (evz k) = (if k = 4 then 2 else 3) := by
  rcases hk with rfl | rfl <;> simp [N2, evz, nrm]
def epw (k : Int) : Nat → Z2
  | 0 => (1, 0)
  | n + 1 => mu k (epw k n) (evz k)
theorem epw_ne (hk : k = 4 ∨ k = 3) : ∀ n, epw k n ≠ (0, 0)
  | 0 => fun e => by injection e with e1 e2; omega
  | n + 1 => mu_ne hk (epw_ne hk n) evz_ne
theorem epw_add (hk : k = 4 ∨ k = 3) (m : Nat) : ∀ n, epw k (m + n) = mu k (epw k m) (epw k n)
  | 0 => (mu_one hk).symm
  | n + 1 => by
    show mu k (epw k (m + n)) (evz k) = mu k (epw k m) (mu k (epw k n) (evz k))
    rw [epw_add hk m n, mu_assoc hk]
theorem N_epw (hk : k = 4 ∨ k = 3) : ∀ n : Nat, (2 : Int) ^ n ≤ N2 k (epw k n)
  | 0 => by simp [epw, N2, nrm]
  | n + 1 => by
    show _ ≤ N2 k (mu k (epw k n) (evz k))
    rw [N_mu hk, N_ev hk, Int.pow_succ]
    have h := N_epw hk n
    have h2 := N_nn (x := epw k n) hk
    split
    · omega
    · omega
/-- primary ones -/
def pmB (k : Int) (x : Z2) : Bool := if k = 4 then (x.1 % 2 == 1) && ((x.2 % 2 == 0) && ((x.1 + x.2) % 4 == 1)) else (x.1 % 3 == 1) && (x.2 % 3 == 0)
/-- the even prime goes in, by the letters -/
theorem ev_dv (hk : k = 4 ∨ k = 3) : Dv2 k (evz k) x ↔ (if k = 4 then (x.1 + x.2) % 2 = 0 else (x.1 + x.2) % 3 = 0) := by
  rcases hk with rfl | rfl
  · constructor
    · intro ⟨q, e⟩
      rw [e]; simp [mu, pr1, evz]; omega
    · intro h
      simp at h
      refine ⟨((x.1 + x.2) / 2, (x.2 - x.1) / 2), Prod.ext ?_ ?_⟩ <;> simp [mu, pr1, evz] <;> omega
  · constructor
    · intro ⟨q, e⟩
      rw [e]; simp [mu, pr1, evz]; omega
    · intro h
      simp at h
      refine ⟨(x.1 - (x.1 + x.2) / 3, (x.1 + x.2) / 3), Prod.ext ?_ ?_⟩ <;> simp [mu, pr1, evz] <;> omega
theorem pm_ev (hk : k = 4 ∨ k = 3) (h : pmB k x = true) : ¬ Dv2 k (evz k) x := by
  rw [ev_dv hk]
  rcases hk with rfl | rfl <;> simp [pmB] at h ⊢ <;> omega
/-- the units, as powers of the turner -/
def uz (k : Int) (j : Nat) : Z2 := if k = 4 then [(1, 0), (0, 1), (-1, 0), (0, -1)].getD j (0, 0) else [(1, 0), (1, 1), (0, 1), (-1, 0), (-1, -1), (0, -1)].getD j (0, 0)
def un (k : Int) : Nat := if k = 4 then 4 else 6
/-- back to 1 -/
def bk (k : Int) (j : Nat) : Nat := if j = 0 then 0 else un k - j
theorem lt4 {j : Nat} (h : j < 4) : j = 0 ∨ j = 1 ∨ j = 2 ∨ j = 3 := by omega
theorem lt6 {j : Nat} (h : j < 6) : j = 0 ∨ j = 1 ∨ j = 2 ∨ j = 3 ∨ j = 4 ∨ j = 5 := by omega
theorem uz_bk (hk : k = 4 ∨ k = 3) {j : Nat} (h : j < un k) : mu k (uz k j) (uz k (bk k j)) = (1, 0) := by
  rcases hk with rfl | rfl
  · rcases lt4 h with rfl | rfl | rfl | rfl <;> simp [uz, bk, un, mu, pr1]
  · rcases lt6 h with rfl | rfl | rfl | rfl | rfl | rfl <;> simp [uz, bk, un, mu, pr1]
/-- just one unit makes a number primary -/
theorem unit_ex (hk : k = 4 ∨ k = 3) (h : ¬ Dv2 k (evz k) x) : ∃ j, j < un k ∧ pmB k (mu k x (uz k (bk k j))) = true := by
  rw [ev_dv hk] at h
  rcases hk with rfl | rfl
  · simp at h
    have hc : (x.1 % 4 = 1 ∧ x.2 % 4 = 0) ∨ (x.1 % 4 = 3 ∧ x.2 % 4 = 2) ∨ (x.1 % 4 = 3 ∧ x.2 % 4 = 0) ∨ (x.1 % 4 = 1 ∧ x.2 % 4 = 2) ∨ (x.1 % 4 = 0 ∧ x.2 % 4 = 1) ∨ (x.1 % 4 = 2 ∧ x.2 % 4 = 3) ∨ (x.1 % 4 = 0 ∧ x.2 % 4 = 3) ∨ (x.1 % 4 = 2 ∧ x.2 % 4 = 1) := by omega
    rcases hc with z | z | z | z | z | z | z | z
    · exact ⟨0, by decide, by simp [pmB, uz, bk, un, mu, pr1]; omega⟩
    · exact ⟨0, by decide, by simp [pmB, uz, bk, un, mu, pr1]; omega⟩
    · exact ⟨2, by decide, by simp [pmB, uz, bk, un, mu, pr1]; omega⟩
    · exact ⟨2, by decide, by simp [pmB, uz, bk, un, mu, pr1]; omega⟩
    · exact ⟨1, by decide, by simp [pmB, uz, bk, un, mu, pr1]; omega⟩
    · exact ⟨1, by decide, by simp [pmB, uz, bk, un, mu, pr1]; omega⟩
    · exact ⟨3, by decide, by simp [pmB, uz, bk, un, mu, pr1]; omega⟩
    · exact ⟨3, by decide, by simp [pmB, uz, bk, un, mu, pr1]; omega⟩
  · simp at h
    have hc : (x.1 % 3 = 1 ∧ x.2 % 3 = 0) ∨ (x.1 % 3 = 2 ∧ x.2 % 3 = 0) ∨ (x.1 % 3 = 0 ∧ x.2 % 3 = 1) ∨ (x.1 % 3 = 0 ∧ x.2 % 3 = 2) ∨ (x.1 % 3 = 1 ∧ x.2 % 3 = 1) ∨ (x.1 % 3 = 2 ∧ x.2 % 3 = 2) := by omega
    rcases hc with z | z | z | z | z | z
    · exact ⟨0, by decide, by simp [pmB, uz, bk, un, mu, pr1]; omega⟩
    · exact ⟨3, by decide, by simp [pmB, uz, bk, un, mu, pr1]; omega⟩
    · exact ⟨2, by decide, by simp [pmB, uz, bk, un, mu, pr1]; omega⟩
    · exact ⟨5, by decide, by simp [pmB, uz, bk, un, mu, pr1]; omega⟩
    · exact ⟨1, by decide, by simp [pmB, uz, bk, un, mu, pr1]; omega⟩
    · exact ⟨4, by decide, by simp [pmB, uz, bk, un, mu, pr1]; omega⟩
end
end
end DL

set_option Elab.async false
set_option linter.all false
set_option maxRecDepth 100000
set_option maxHeartbeats 4000000
namespace DL
open PySem PySem.Spec PyProof.Rows L2 LamX
section
variable {K : D → Prop} {E : Exc → Prop} {a b c d k : Int} {n m p q : Nat}
theorem mul_bd {x y p q : Int} (h1 : -p < x) (h2 : x < p) (h3 : -q < y) (h4 : y < q) : -(p * q) < x * y ∧ x * y < p * q := by
  have a := Int.mul_pos (show 0 < p - x by omega) (show 0 < q - y by omega)
  have b := Int.mul_pos (show 0 < p + x by omega) (show 0 < q + y by omega)
  have c := Int.mul_pos (show 0 < p - x by omega) (show 0 < q + y by omega)
  have d := Int.mul_pos (show 0 < p + x by omega) (show 0 < q - y by omega)
  constructor <;> grind
section
variable {x y z l l' : Z2}
theorem unit_one (hk : k = 4 ∨ k = 3) {j : Nat} (h : pmB k x = true) (hj : j < un k) (h2 : pmB k (mu k x (uz k j)) = true) : j = 0 := by
  rcases hk with rfl | rfl
  · rcases lt4 hj with rfl | rfl | rfl | rfl
    · rfl
    · simp [pmB, uz, mu, pr1] at h h2; omega
    · simp [pmB, uz, mu, pr1] at h h2; omega
    · simp [pmB, uz, mu, pr1] at h h2; omega
  · rcases lt6 hj with rfl | rfl | rfl | rfl | rfl | rfl
    · rfl
    · simp [pmB, uz, mu, pr1] at h h2; omega
    · simp [pmB, uz, mu, pr1] at h h2; omega
    · simp [pmB, uz, mu, pr1] at h h2; omega
    · simp [pmB, uz, mu, pr1] at h h2; omega
    · simp [pmB, uz, mu, pr1] at h h2; omega
/-- products of units -/
theorem uz_mul (hk : k = 4 ∨ k = 3) {i j : Nat} (hi : i < un k) (hj : j < un k) : mu k (uz k i) (uz k j) = uz k ((i + j) % un k) := by
  rcases hk with rfl | rfl
  · rcases lt4 hi with rfl | rfl | rfl | rfl <;> rcases lt4 hj with rfl | rfl | rfl | rfl <;> simp [uz, un, mu, pr1]
  · rcases lt6 hi with rfl | rfl | rfl | rfl | rfl | rfl <;> rcases lt6 hj with rfl | rfl | rfl | rfl | rfl | rfl <;> simp [uz, un, mu, pr1]
theorem un_pos : 0 < un k := by unfold un; split <;> omega
theorem bk_lt {j : Nat} (h : j < un k) : bk k j < un k := by unfold bk; split <;> omega
theorem unit_dv (hk : k = 4 ∨ k = 3) {j : Nat} (hj : j < un k) : Dv2 k (evz k) (mu k x (uz k j)) ↔ Dv2 k (evz k) x := by
  constructor
  · intro h
    have h2 := dv_mul hk (z := uz k (bk k j)) h
    rw [mu_comm hk, mu_assoc hk, uz_bk hk hj, mu_one hk] at h2
    exact h2
  · intro h
    rw [mu_comm hk]; exact dv_mul hk h
/-- number, how often the even prime goes in, the unit's index, the primary number -/
structure Ptd (k : Int) (x : Z2) (n j : Nat) (l : Z2) : Prop where
  prim : pmB k l = true
  hj : j < un k
  eq : mu k (mu k l (uz k j)) (epw k n) = x
theorem epw_uniq (hk : k = 4 ∨ k = 3) (h1 : ¬ Dv2 k (evz k) x) (h2 : ¬ Dv2 k (evz k) y) : ∀ {m n : Nat}, mu k x (epw k m) = mu k y (epw k n) → m = n ∧ x = y := by
  have key : ∀ {x y : Z2} {m n : Nat}, ¬ Dv2 k (evz k) x → m ≤ n → mu k x (epw k m) = mu k y (epw k n) → m = n ∧ x = y := by
    intro x y m n h1 h e
    obtain ⟨d, rfl⟩ : ∃ d, n = m + d := ⟨n - m, by omega⟩
    rw [epw_add hk, ← mu_assoc hk, mu_comm hk (x := y), mu_assoc hk, mu_comm hk (x := x)] at e
    have e2 := mu_cancel hk (epw_ne hk m) e
    cases d with
    | zero => exact ⟨rfl, by rw [e2]; exact mu_one hk⟩
    | succ d =>
      exfalso; apply h1
      rw [e2]
      exact ⟨mu k y (epw k d), by show mu k y (mu k (epw k d) (evz k)) = _; rw [mu_assoc hk]⟩
  intro m n e
  rcases Nat.le_total m n with h | h
  · exact key h1 h e
  · obtain ⟨a, b⟩ := key h2 h e.symm
    exact ⟨a.symm, b.symm⟩
theorem ptd_uniq (hk : k = 4 ∨ k = 3) {n n' j j' : Nat} (p : Ptd k x n j l) (p' : Ptd k x n' j' l') : n = n' ∧ j = j' ∧ l = l' := by
  have h1 : ¬ Dv2 k (evz k) (mu k l (uz k j)) := fun z => pm_ev hk p.prim ((unit_dv hk p.hj).mp z)
  have h2 : ¬ Dv2 k (evz k) (mu k l' (uz k j')) := fun z => pm_ev hk p'.prim ((unit_dv hk p'.hj).mp z)
  obtain ⟨e1, e2⟩ := epw_uniq hk h1 h2 (p.eq.trans p'.eq.symm)
  have e3 : l' = mu k l (uz k ((j + bk k j') % un k)) := by
    rw [← uz_mul hk p.hj (bk_lt p'.hj), ← mu_assoc hk, e2, mu_assoc hk, uz_bk hk p'.hj, mu_one hk]
  have h3 := p'.prim
  rw [e3] at h3
  have e4 := unit_one hk p.prim (Nat.mod_lt _ un_pos) h3
  rw [e4] at e3
  have e5 : uz k 0 = (1, 0) := by unfold uz; split <;> rfl
  rw [e5, mu_one hk] at e3
  refine ⟨e1, ?_, e3.symm⟩
  have hp := p.hj
  have hp' := p'.hj
  unfold bk at e4
  split at e4
  · rename_i z
    rw [Nat.add_zero, Nat.mod_eq_of_lt hp] at e4; omega
  · rcases Nat.lt_or_ge (j + (un k - j')) (un k) with z | z
    · rw [Nat.mod_eq_of_lt z] at e4; omega
    · rw [Nat.mod_eq_sub_mod z, Nat.mod_eq_of_lt (by omega)] at e4; omega
theorem ptd_of (hk : k = 4 ∨ k = 3) {n j : Nat} (h : mu k y (epw k n) = x) (hj : j < un k) (hp : pmB k (mu k y (uz k (bk k j))) = true) : Ptd k x n j (mu k y (uz k (bk k j))) :=
  ⟨hp, hj, by rw [mu_assoc hk (x := y), mu_comm hk (x := uz k (bk k j)), uz_bk hk hj, mu_one hk, h]⟩
/-! how great letters are -/
theorem sq_N (hk : k = 4 ∨ k = 3) : x.1 * x.1 ≤ 2 * N2 k x ∧ x.2 * x.2 ≤ 2 * N2 k x := by
  have h1 := sq_nn x.1
  have h2 := sq_nn x.2
  rcases hk with rfl | rfl
  · simp only [N2, nrm]; simp; omega
  · have h3 := sq_nn (2 * x.1 - x.2)
    have h4 := sq_nn (x.1 - 2 * x.2)
    simp only [N2, nrm]; simp
    constructor <;> grind
theorem bn_sq {a : Int} {n : Nat} (h : a * a < 2 ^ (n + n)) : Bn n a := ⟨by
  rcases Nat.lt_or_ge a.natAbs (2 ^ n) with z | z
  · exact z
  · have h1 : 2 ^ n * 2 ^ n ≤ a.natAbs * a.natAbs := Nat.mul_le_mul z z
    rw [← Nat.pow_add] at h1
    have h2 : ((a.natAbs * a.natAbs : Nat) : Int) = a * a := by rw [Int.natCast_mul]; exact Int.natAbs_mul_self' a
    have h3 : ((2 ^ (n + n) : Nat) : Int) = (2 : Int) ^ (n + n) := by rw [Int.natCast_pow]; rfl
    omega⟩
theorem bn_N (hk : k = 4 ∨ k = 3) {n : Nat} (h : 2 * N2 k x < 2 ^ (n + n)) : Bn n x.1 ∧ Bn n x.2 := by
  obtain ⟨h1, h2⟩ := sq_N (x := x) hk
  exact ⟨bn_sq (by omega), bn_sq (by omega)⟩
theorem N_bn (hk : k = 4 ∨ k = 3) {n : Nat} (h1 : Bn n x.1) (h2 : Bn n x.2) : N2 k x < 2 ^ (n + n + 2) := by
  have e : ((2 ^ n : Nat) : Int) = (2 : Int) ^ n := by rw [Int.natCast_pow]; rfl
  have a1 : -(2 ^ n : Int) < x.1 ∧ x.1 < 2 ^ n := by have := h1.h; omega
  have a2 : -(2 ^ n : Int) < x.2 ∧ x.2 < 2 ^ n := by have := h2.h; omega
  have p1 := mul_bd a1.1 a1.2 a1.1 a1.2
  have p2 := mul_bd a2.1 a2.2 a2.1 a2.2
  have p3 := mul_bd a1.1 a1.2 a2.1 a2.2
  have e2 : (2 : Int) ^ (n + n + 2) = 4 * (2 ^ n * 2 ^ n) := by rw [Int.pow_add, Int.pow_add]; omega
  rw [e2]
  unfold N2 nrm
  split <;> omega
end
end
end DL

set_option Elab.async false
set_option linter.all false
set_option maxRecDepth 100000
set_option maxHeartbeats 4000000
namespace DL
open PySem PySem.Spec PyProof.Rows L2 LamX
section
variable {K : D → Prop} {E : Exc → Prop} {a b c d k : Int} {n m p q : Nat}
section
variable {x y : Z2}
@[simp] theorem p_even_by : S_even_by [.int k] K E = K (PP 1 (evz k).2) := by
  by_cases h : k = 4 <;> simp [S_even_by, t_even_by, h, evz]
@[simp] theorem p_is_primary_by : S_is_primary_by [.int k, PP a b] K E = K (.bl (pmB k (a, b))) := by
  by_cases h : k = 4
  · by_cases h1 : a % 2 = 1 <;> by_cases h2 : b % 2 = 0 <;> simp [S_is_primary_by, t_is_primary_by, h, pmB, h1, h2, beq_false_of_ne]
  · by_cases h1 : a % 3 = 1 <;> simp [S_is_primary_by, t_is_primary_by, h, pmB, h1, beq_false_of_ne]
theorem N_epw_le (hk : k = 4 ∨ k = 3) : ∀ n : Nat, N2 k (epw k n) ≤ 4 ^ n
  | 0 => by simp [epw, N2, nrm]
  | n + 1 => by
    show N2 k (mu k (epw k n) (evz k)) ≤ _
    rw [N_mu hk, N_ev hk, Int.pow_succ]
    have h := N_epw_le hk n
    have h2 := N_nn (x := epw k n) hk
    split <;> omega
theorem bn_epw (hk : k = 4 ∨ k = 3) (n : Nat) : Bn (n + 1) (epw k n).1 ∧ Bn (n + 1) (epw k n).2 := by
  refine bn_N hk ?_
  have h := N_epw_le hk n
  have e : (4 : Int) ^ n = 2 ^ (n + n) := by rw [Int.pow_add, ← Int.mul_pow]; rfl
  have h0 : (0 : Int) < 2 ^ (n + n) := Int.pow_pos (by decide)
  rw [show n + 1 + (n + 1) = n + n + 2 by omega, Int.pow_add]
  omega
instance bn_ev : Bn 2 (evz k).2 := ⟨by unfold evz; split <;> decide⟩
theorem pw_loop (hk : k = 4 ∨ k = 3) {N : DEnds} {o : Int} : ∀ (its : List D) (j : Nat) (s : Slot), j + its.length ≤ 2000 → (∀ s, N.nx [.val (.int k), .val (PP 1 (evz k).2), .val (.int o), .val (PP (epw k (j + its.length)).1 (epw k (j + its.length)).2), s]) →
    turns (dgName 4) (dSeq (dSet 3 (dVal (dCall S_product_by (fun _ => E) (daCons (dVar 0) (daCons (dVar 3) (daCons (dVar 1) daNil)))))) dNext) N its [.val (.int k), .val (PP 1 (evz k).2), .val (.int o), .val (PP (epw k j).1 (epw k j).2), s]
  | [], j, s, hl, h => by simpa using h s
  | d :: its, j, s, hl, h => by
    rw [List.length_cons] at hl
    have i1 : Bn 2001 (epw k j).1 := Bn.up (bn_epw hk j).1 (by omega)
    have i2 : Bn 2001 (epw k j).2 := Bn.up (bn_epw hk j).2 (by omega)
    simp
    have e : PP ((epw k j).1 - (epw k j).2 * (evz k).2) (pr1 k (epw k j).1 (epw k j).2 1 (evz k).2) = PP (epw k (j + 1)).1 (epw k (j + 1)).2 := by simp [epw, mu, evz]
    rw [e]
    exact pw_loop hk its (j + 1) _ (by omega) (fun s => by have := h s; rw [List.length_cons] at this; rwa [show j + 1 + its.length = j + (its.length + 1) by omega])
theorem p_power_by (hk : k = 4 ∨ k = 3) {n : Nat} (hn : n ≤ 2000) : K (PP (epw k n).1 (epw k n).2) → S_power_by [.int k, PP 1 (evz k).2, .int n] K E := by
  intro h
  simp [S_power_by, t_power_by]
  refine ⟨by omega, ?_⟩
  have := pw_loop (E := E) hk (o := n) (N := { nx := dSeq (dRet (dVar 3)) dNext { nx := fun _ => K .non, rt := K }, rt := K }) (rangeD 0 n) 0 .un (by simp; omega) (fun s => by simpa using h)
  exact this
theorem rs_ev : rs k x (evz k) = (re0 k x.1 x.2 1 (evz k).2, re1 k x.1 x.2 1 (evz k).2) := rfl
theorem dq_ev : dq k x (evz k) = (dv0 k x.1 x.2 1 (evz k).2, dv1 k x.1 x.2 1 (evz k).2) := rfl
theorem N_ev2 (hk : k = 4 ∨ k = 3) : 0 < nrm k 1 (evz k).2 := N_pos hk evz_ne
theorem pow_cast (n : Nat) : ((2 ^ n : Nat) : Int) = (2 : Int) ^ n := by rw [Int.natCast_pow]; rfl
/-- the invariant of taking even primes away -/
structure PInv (k : Int) (x : Z2) (p : Z2 × Nat) : Prop where
  ne : p.1 ≠ (0, 0)
  eq : mu k p.1 (epw k p.2) = x
  le : N2 k p.1 * 2 ^ p.2 ≤ N2 k x
theorem PInv.start (hk : k = 4 ∨ k = 3) (hx : x ≠ (0, 0)) : PInv k x (x, 0) := ⟨hx, mu_one hk, by simp⟩
theorem PInv.step (hk : k = 4 ∨ k = 3) {p : Z2 × Nat} (h : PInv k x p) (hd : Dv2 k (evz k) p.1) : PInv k x (dq k p.1 (evz k), p.2 + 1) ∧ (N2 k (dq k p.1 (evz k))).toNat < (N2 k p.1).toNat := by
  obtain ⟨h1, h2, h3⟩ := h
  have e := dq_eq hk evz_ne hd
  have ne : dq k p.1 (evz k) ≠ (0, 0) := fun z => by rw [z, mu0] at e; exact h1 e
  have hN : N2 k p.1 = N2 k (dq k p.1 (evz k)) * N2 k (evz k) := by rw [← N_mu hk, ← e]
  have hp := N_pos hk ne
  have he : 2 ≤ N2 k (evz k) := by rw [N_ev hk]; split <;> decide
  have h4 : N2 k (dq k p.1 (evz k)) * 2 ≤ N2 k p.1 := by
    rw [hN]; exact Int.mul_le_mul_of_nonneg_left he (by omega)
  refine ⟨⟨ne, ?_, ?_⟩, by omega⟩
  · show mu k (dq k p.1 (evz k)) (mu k (epw k p.2) (evz k)) = x
    rw [mu_comm hk (x := epw k p.2), ← mu_assoc hk, ← e, h2]
  · have h5 : N2 k (dq k p.1 (evz k)) * 2 * 2 ^ p.2 ≤ N2 k p.1 * 2 ^ p.2 := Int.mul_le_mul_of_nonneg_right h4 (Int.le_of_lt (Int.pow_pos (by decide)))
    have e2 : N2 k (dq k p.1 (evz k)) * 2 * 2 ^ p.2 = N2 k (dq k p.1 (evz k)) * 2 ^ (p.2 + 1) := by rw [Int.pow_succ]; grind
    show N2 k (dq k p.1 (evz k)) * 2 ^ (p.2 + 1) ≤ N2 k x
    omega
theorem PInv.bn (hk : k = 4 ∨ k = 3) {p : Z2 × Nat} (h : PInv k x p) (hN : N2 k x < 2 ^ 482) : Bn 242 p.1.1 ∧ Bn 242 p.1.2 ∧ p.2 < 482 := by
  have h1 := N_pos hk h.ne
  have h2 : (1 : Int) ≤ 2 ^ p.2 := Int.pow_pos (by decide)
  have h3 : N2 k p.1 * 1 ≤ N2 k p.1 * 2 ^ p.2 := Int.mul_le_mul_of_nonneg_left h2 (by omega)
  have h4 : 1 * 2 ^ p.2 ≤ N2 k p.1 * 2 ^ p.2 := Int.mul_le_mul_of_nonneg_right (by omega) (by omega)
  have h5 := h.le
  obtain ⟨b1, b2⟩ := bn_N (x := p.1) hk (n := 242) (by
    have : (2 : Int) ^ (242 + 242) = 4 * 2 ^ 482 := by decide +kernel
    omega)
  refine ⟨b1, b2, ?_⟩
  rcases Nat.lt_or_ge p.2 482 with z | z
  · exact z
  · have h6 : (2 : Nat) ^ 482 ≤ 2 ^ p.2 := Nat.pow_le_pow_right (by decide) z
    have e1 := pow_cast 482
    have e2 := pow_cast p.2
    omega
/-- what parted_by gives -/
theorem p_parted_by (hk : k = 4 ∨ k = 3) (hx : x ≠ (0, 0)) (h1 : Bn 240 x.1) (h2 : Bn 240 x.2) (hK : ∀ (n j : Nat) (l : Z2), Ptd k x n j l → n ≤ 500 → K (.tup [.int n, .int j, PP l.1 l.2])) : S_parted_by [.int k, PP x.1 x.2] K E := by
  have hN := N_bn hk h1 h2
  simp [S_parted_by, t_parted_by]
  refine while_inv (α := Z2 × Nat) (enc := fun p => [.val (.int k), .val (PP p.1.1 p.1.2), .val (PP 1 (evz k).2), .val (.int p.2), .un, .un, .un]) (c := fun p => rs k p.1 (evz k) == (0, 0)) (f := fun p => (dq k p.1 (evz k), p.2 + 1)) (μ := fun p => (N2 k p.1).toNat) (Inv := PInv k x) ?_ ?_ ?_ ?_ ?_ (x, 0) (PInv.start hk hx)
  · intro p hp KT q
    obtain ⟨i1, i2, _⟩ := hp.bn hk hN
    have h0 := N_ev2 hk
    simp [h0]
    exact q
  · intro p hp hc M _ q
    obtain ⟨i1, i2, _⟩ := hp.bn hk hN
    have h0 := N_ev2 hk
    simp [h0]
    exact q
  · intro p hp hc
    exact (hp.step hk ((rs_zero hk evz_ne).mp (eq_of_beq hc))).2
  · intro p hp hc
    exact (hp.step hk ((rs_zero hk evz_ne).mp (eq_of_beq hc))).1
  · intro p hp hc
    obtain ⟨i1, i2, hn⟩ := hp.bn hk hN
    have nd : ¬ Dv2 k (evz k) p.1 := fun z => by
      have e := (rs_zero hk evz_ne).mpr z
      rw [e] at hc; exact absurd hc (by simp)
    have fin : ∀ j : Nat, j < un k → pmB k (mu k p.1 (uz k (bk k j))) = true → K (.tup [.int p.2, .int j, PP (mu k p.1 (uz k (bk k j))).1 (mu k p.1 (uz k (bk k j))).2]) := fun j hj h => hK _ _ _ (ptd_of hk hp.eq hj h) (by omega)
    obtain ⟨j0, hj0, hp0⟩ := unit_ex hk nd
    rcases hk with rfl | rfl
    · have f0 := fin 0 (by decide)
      have f1 := fin 1 (by decide)
      have f2 := fin 2 (by decide)
      have f3 := fin 3 (by decide)
      simp [mu, uz, bk, un] at f0 f1 f2 f3
      simp
      split
      · exact f0 ‹_›
      · split
        · exact f1 ‹_›
        · split
          · exact f2 ‹_›
          · split
            · exact f3 ‹_›
            · exfalso
              rcases lt4 hj0 with rfl | rfl | rfl | rfl <;> simp [mu, uz, bk, un] at hp0 <;> exact absurd hp0 ‹_›
    · have f0 := fin 0 (by decide)
      have f1 := fin 1 (by decide)
      have f2 := fin 2 (by decide)
      have f3 := fin 3 (by decide)
      have f4 := fin 4 (by decide)
      have f5 := fin 5 (by decide)
      simp [mu, uz, bk, un] at f0 f1 f2 f3 f4 f5
      simp
      split
      · exact f0 ‹_›
      · split
        · exact f1 ‹_›
        · split
          · exact f2 ‹_›
          · split
            · exact f3 ‹_›
            · split
              · exact f4 ‹_›
              · split
                · exact f5 ‹_›
                · exfalso
                  rcases lt6 hj0 with rfl | rfl | rfl | rfl | rfl | rfl <;> simp [mu, uz, bk, un] at hp0 <;> exact absurd hp0 ‹_›
end
end
end DL

set_option Elab.async false
set_option linter.all false
set_option maxRecDepth 100000
set_option maxHeartbeats 4000000
namespace DL
open PySem PySem.Spec PyProof.Rows L2 LamX
section
variable {K : D → Prop} {E : Exc → Prop} {a b c d k : Int} {n m p q : Nat}
section
variable {x y : Z2}
theorem N_uz (hk : k = 4 ∨ k = 3) {j : Nat} (h : j < un k) : N2 k (uz k j) = 1 := by
  rcases hk with rfl | rfl
  · rcases lt4 h with rfl | rfl | rfl | rfl <;> simp [uz, N2, nrm]
  · rcases lt6 h with rfl | rfl | rfl | rfl | rfl | rfl <;> simp [uz, N2, nrm]
theorem Ptd.le (hk : k = 4 ∨ k = 3) {l : Z2} {n j : Nat} (p : Ptd k x n j l) : N2 k l ≤ N2 k x := by
  rw [← p.eq, N_mu hk, N_mu hk, N_uz hk p.hj, Int.mul_one]
  have h1 := N_epw hk n
  have h2 : (1 : Int) ≤ 2 ^ n := Int.pow_pos (by decide)
  have h3 := N_nn (x := l) hk
  have h4 : N2 k l * 1 ≤ N2 k l * N2 k (epw k n) := Int.mul_le_mul_of_nonneg_left (by omega) h3
  omega
/-- what Euclid's turns keep -/
structure EInv (k : Int) (x y : Z2) (B : Int) (p : Z2 × Z2) : Prop where
  dv : ∀ d, (Dv2 k d p.1 ∧ Dv2 k d p.2) ↔ (Dv2 k d x ∧ Dv2 k d y)
  b1 : N2 k p.1 ≤ B
  b2 : N2 k p.2 ≤ B
theorem EInv.step (hk : k = 4 ∨ k = 3) {B : Int} {p : Z2 × Z2} (h : EInv k x y B p) (h0 : p.2 ≠ (0, 0)) : EInv k x y B (p.2, rs k p.1 p.2) ∧ (N2 k (rs k p.1 p.2)).toNat < (N2 k p.2).toNat := by
  have h1 := rs_le (x := p.1) hk h0
  have h2 := N_pos hk h0
  have h3 := N_nn (x := rs k p.1 p.2) hk
  refine ⟨⟨fun d => ?_, h.b2, by have := h.b2; show N2 k (rs k p.1 p.2) ≤ B; omega⟩, by omega⟩
  rw [← h.dv d]
  constructor
  · intro ⟨a1, a2⟩
    have a3 := dv_mul hk (z := dq k p.1 p.2) a1
    refine ⟨?_, a1⟩
    obtain ⟨q1, e1⟩ := a2
    obtain ⟨q2, e2⟩ := a3
    refine ⟨(q1.1 + q2.1, q1.2 + q2.2), ?_⟩
    have e3 : p.1 = (((rs k p.1 p.2)).1 + (mu k (dq k p.1 p.2) p.2).1, (rs k p.1 p.2).2 + (mu k (dq k p.1 p.2) p.2).2) := by
      rw [rs_eq]; unfold su; exact Prod.ext (by simp) (by simp)
    rw [e3]
    have e1' : rs k p.1 p.2 = mu k q1 d := e1
    rw [e1', e2]
    rcases hk with rfl | rfl <;> simp only [mu, pr1] <;> simp <;> constructor <;> grind
  · intro ⟨a1, a2⟩
    exact ⟨a2, by show Dv2 k d (rs k p.1 p.2); rw [rs_eq]; exact dv_su hk a1 (dv_mul hk a2)⟩
theorem p_common_by (hk : k = 4 ∨ k = 3) (h1 : Bn 200 x.1) (h2 : Bn 200 x.2) (h3 : Bn 200 y.1) (h4 : Bn 200 y.2) (hK0 : x = (0, 0) → y = (0, 0) → K (PP 0 0))
    (hK : ∀ (n : Nat) (l : Z2), pmB k l = true → n ≤ 500 → mu k (epw k n) l ≠ (0, 0) → (∀ d, Dv2 k d (mu k (epw k n) l) ↔ (Dv2 k d x ∧ Dv2 k d y)) → K (PP (mu k (epw k n) l).1 (mu k (epw k n) l).2)) : S_common_by [.int k, PP x.1 x.2, PP y.1 y.2] K E := by
  have hx := N_bn hk h1 h2
  have hy := N_bn hk h3 h4
  have hB : ∀ {u : Z2}, N2 k u ≤ 2 ^ (200 + 200 + 2) → Bn 202 u.1 ∧ Bn 202 u.2 := fun {u} h => bn_N hk (by
    have : (2 : Int) ^ (202 + 202) = 4 * 2 ^ (200 + 200 + 2) := by decide +kernel
    omega)
  simp [S_common_by, t_common_by]
  refine while_inv (α := Z2 × Z2) (enc := fun p => [.val (.int k), .val (PP p.1.1 p.1.2), .val (PP p.2.1 p.2.2), .un, .un, .un]) (c := fun p => !(p.2.1 == 0 && p.2.2 == 0)) (f := fun p => (p.2, rs k p.1 p.2)) (μ := fun p => (N2 k p.2).toNat) (Inv := EInv k x y (2 ^ (200 + 200 + 2))) ?_ ?_ ?_ ?_ ?_ (x, y) ⟨fun d => Iff.rfl, Int.le_of_lt hx, Int.le_of_lt hy⟩
  · intro p hp KT q
    simpa using q
  · intro p hp hc M _ q
    obtain ⟨i1, i2⟩ := hB hp.b1
    obtain ⟨i3, i4⟩ := hB hp.b2
    have h0 : p.2 ≠ (0, 0) := fun z => by rw [z] at hc; simp at hc
    have hp0 : 0 < nrm k p.2.1 p.2.2 := N_pos hk h0
    simp [hp0]
    exact q
  · intro p hp hc
    exact (hp.step hk fun z => by rw [z] at hc; simp at hc).2
  · intro p hp hc
    exact (hp.step hk fun z => by rw [z] at hc; simp at hc).1
  · intro ⟨u, v⟩ hp hc
    have hv : v = (0, 0) := by simp at hc; exact Prod.ext hc.1 hc.2
    subst hv
    obtain ⟨i1, i2⟩ := hB hp.b1
    have dv : ∀ d, Dv2 k d u ↔ (Dv2 k d x ∧ Dv2 k d y) := fun d => by rw [← hp.dv d]; exact ⟨fun h => ⟨h, dv_zero⟩, fun h => h.1⟩
    simp
    by_cases hu : u = (0, 0)
    · subst hu
      have d0 := (dv (0, 0)).mp (dv_refl hk)
      simpa using hK0 (zero_dv d0.1) (zero_dv d0.2)
    · rw [if_neg (fun z => hu (Prod.ext z.1 z.2))]
      refine p_parted_by hk hu (Bn.up i1 (by decide)) (Bn.up i2 (by decide)) fun n j l pt hn => ?_
      have hl : pmB k l = true := pt.prim
      have ass : ∀ d, Dv2 k d (mu k (epw k n) l) ↔ Dv2 k d u := fun d => by
        have e1 : u = mu k (uz k j) (mu k (epw k n) l) := by
          rw [← pt.eq, mu_comm hk (x := l), mu_assoc hk, mu_comm hk (x := l)]
        have e2 : mu k (epw k n) l = mu k (uz k (bk k j)) u := by
          rw [e1, ← mu_assoc hk, mu_comm hk (x := uz k (bk k j)), uz_bk hk pt.hj, one_mu hk]
        constructor
        · intro h; rw [e1]; exact dv_mul hk h
        · intro h; rw [e2]; exact dv_mul hk h
      have hne : mu k (epw k n) l ≠ (0, 0) := fun z => by
        have := (ass (0, 0)).mp (by rw [z]; exact dv_refl hk)
        exact hu (zero_dv this)
      simp
      refine p_power_by hk (by omega) ?_
      obtain ⟨j1, j2⟩ := bn_epw hk n
      have k1 : Bn 501 (epw k n).1 := Bn.up j1 (by omega)
      have k2 : Bn 501 (epw k n).2 := Bn.up j2 (by omega)
      obtain ⟨k3, k4⟩ := hB (Int.le_trans (pt.le hk) hp.b1)
      simp
      exact hK n l hl hn hne fun d => (ass d).trans (dv d)
end
end
end DL

set_option Elab.async false
set_option linter.all false
set_option maxRecDepth 100000
set_option maxHeartbeats 4000000
namespace DL
open PySem PySem.Spec PyProof.Rows L2 LamX
section
variable {K : D → Prop} {E : Exc → Prop} {a b c d k : Int} {n m p q : Nat}
section
variable {x y l : Z2}
def isZ (h : D) (x : Z2) : Prop := h = PP x.1 x.2 ∨ h = .lst [.int x.1, .int x.2]
theorem p_is_primary (hk : k = 4 ∨ k = 3) {h : D} (hh : isZ h x) (h1 : Lt x.1) (h2 : Lt x.2) : S_is_primary [.int k, h] K E = K (.bl (pmB k x)) := by
  rcases hh with rfl | rfl <;> simp [S_is_primary, t_is_primary, hk, h1, h2]
theorem p_primary_of (hk : k = 4 ∨ k = 3) {h : D} (hh : isZ h x) (h1 : Lt x.1) (h2 : Lt x.2) (hx : x ≠ (0, 0)) (hK : ∀ (n j : Nat) (l : Z2), Ptd k x n j l → n ≤ 500 → K (.tup [.int n, .int j, PP l.1 l.2])) : S_primary_of [.int k, h] K E := by
  have i1 := bn_lt hk h1
  have i2 := bn_lt hk h2
  have h0 : ¬ (x.1 = 0 ∧ x.2 = 0) := fun z => hx (Prod.ext z.1 z.2)
  rcases hh with rfl | rfl <;> simp [S_primary_of, t_primary_of, hk, h1, h2, h0] <;> exact p_parted_by hk hx (Bn.up i1 (by decide)) (Bn.up i2 (by decide)) hK
theorem p_common_part (hk : k = 4 ∨ k = 3) (h1 : Lt x.1) (h2 : Lt x.2) (h3 : Lt y.1) (h4 : Lt y.2) (h : S_common_by [.int k, PP x.1 x.2, PP y.1 y.2] K E) : S_common_part [.int k, PP x.1 x.2, .lst [.int y.1, .int y.2]] K E := by
  simpa [S_common_part, t_common_part, hk, h1, h2, h3, h4] using h
/-! the law's own -/
@[simp] theorem p__law_even : S__law_even [.int k] K E = K (PP 1 (evz k).2) := by
  by_cases h : k = 4 <;> simp [S__law_even, t__law_even, h, evz]
@[simp] theorem p__law_is_primary : S__law_is_primary [.int k, PP a b] K E = K (.bl (pmB k (a, b))) := by
  by_cases h : k = 4
  · by_cases h1 : a % 2 = 1 <;> by_cases h2 : b % 2 = 0 <;> simp [S__law_is_primary, t__law_is_primary, h, pmB, h1, h2, beq_false_of_ne]
  · by_cases h1 : a % 3 = 1 <;> simp [S__law_is_primary, t__law_is_primary, h, pmB, h1, beq_false_of_ne]
theorem goesB (hk : k = 4 ∨ k = 3) (h : y ≠ (0, 0)) : (decide (t0 k x.1 x.2 y.1 y.2 % nrm k y.1 y.2 = 0) && decide (t1 k x.1 x.2 y.1 y.2 % nrm k y.1 y.2 = 0)) = (rs k x y == (0, 0)) := by
  have hg := goes_iff (a := x.1) (b := x.2) hk (N_pos hk h)
  rw [Bool.eq_iff_iff]
  have e : (rs k x y == (0, 0)) = true ↔ (re0 k x.1 x.2 y.1 y.2 = 0 ∧ re1 k x.1 x.2 y.1 y.2 = 0) := by
    rw [beq_iff_eq]; exact ⟨fun z => by injection z with z1 z2; exact ⟨z1, z2⟩, fun z => Prod.ext z.1 z.2⟩
  rw [e]
  simpa using hg.symm
theorem p__law_goesZ (hk : k = 4 ∨ k = 3) [Bn n x.1] [Bn m x.2] [Bn p y.1] [Bn q y.2] (hn : n ≤ 500) (hm : m ≤ 500) (hp : p ≤ 500) (hq : q ≤ 500) (h : y ≠ (0, 0)) : S__law_goes [.int k, PP y.1 y.2, PP x.1 x.2] K E = K (.bl (rs k x y == (0, 0))) := by
  have h0 : 0 < nrm k y.1 y.2 := N_pos hk h
  rw [p__law_goes hn hm hp hq h0, goesB hk h]
theorem p__law_over (hk : k = 4 ∨ k = 3) [Bn n x.1] [Bn m x.2] [Bn p y.1] [Bn q y.2] (hn : n ≤ 500) (hm : m ≤ 500) (hp : p ≤ 500) (hq : q ≤ 500) (h : y ≠ (0, 0)) (hd : Dv2 k y x) : S__law_over [.int k, PP x.1 x.2, PP y.1 y.2] K E = K (PP (dq k x y).1 (dq k x y).2) := by
  have i1 : Bn 500 x.1 := Bn.up ‹_› hn
  have i2 : Bn 500 x.2 := Bn.up ‹_› hm
  have i3 : Bn 500 y.1 := Bn.up ‹_› hp
  have i4 : Bn 500 y.2 := Bn.up ‹_› hq
  have h0 : 0 < nrm k y.1 y.2 := N_pos hk h
  have hg := (goes_iff (a := x.1) (b := x.2) hk h0).mp (by
    have e := (rs_zero hk h).mpr hd
    injection e with e1 e2
    exact ⟨e1, e2⟩)
  obtain ⟨m0, g0⟩ := Int.dvd_of_emod_eq_zero hg.1
  obtain ⟨m1, g1⟩ := Int.dvd_of_emod_eq_zero hg.2
  have e0 : (x.1 * ot0 k y.1 y.2 - x.2 * -y.2) / nrm k y.1 y.2 = (dq k x y).1 := by
    show t0 k x.1 x.2 y.1 y.2 / _ = dv0 k x.1 x.2 y.1 y.2
    rw [dv0_eq, g0, qu_of h0, Int.mul_ediv_cancel_left _ (by omega)]
  have e1 : pr1 k x.1 x.2 (ot0 k y.1 y.2) (-y.2) / nrm k y.1 y.2 = (dq k x y).2 := by
    show t1 k x.1 x.2 y.1 y.2 / _ = dv1 k x.1 x.2 y.1 y.2
    rw [dv1_eq, g1, qu_of h0, Int.mul_ediv_cancel_left _ (by omega)]
  simp [S__law_over, t__law_over, h0, e0, e1]
@[simp] theorem p__law_rest [Bn n a] [Bn m b] [Bn p c] [Bn q d] (hn : n ≤ 100) (hm : m ≤ 100) (hp : p ≤ 100) (hq : q ≤ 100) (h0 : 0 < nrm k c d) : S__law_rest [.int k, PP a b, PP c d] K E = K (PP (re0 k a b c d) (re1 k a b c d)) := by
  have i1 : Bn 500 a := Bn.up ‹_› (Nat.le_trans hn (by decide))
  have i2 : Bn 500 b := Bn.up ‹_› (Nat.le_trans hm (by decide))
  have i3 : Bn 500 c := Bn.up ‹_› (Nat.le_trans hp (by decide))
  have i4 : Bn 500 d := Bn.up ‹_› (Nat.le_trans hq (by decide))
  have h1 : 0 < 2 * nrm k c d := by omega
  have j0 : Bn 20000 (dv0 k a b c d) := bn_dv0
  have j1 : Bn 20000 (dv1 k a b c d) := bn_dv1
  have f0 : (2 * (a * ot0 k c d - b * -d) + nrm k c d) / (2 * nrm k c d) = dv0 k a b c d := rfl
  have f1 : (2 * pr1 k a b (ot0 k c d) (-d) + nrm k c d) / (2 * nrm k c d) = dv1 k a b c d := rfl
  simp [S__law_rest, t__law_rest, h1, f0, f1]
  exact Iff.rfl
end
end
end DL

set_option Elab.async false
set_option linter.all false
set_option maxRecDepth 100000
set_option maxHeartbeats 4000000
namespace DL
open PySem PySem.Spec PyProof.Rows L2 LamX
section
variable {K : D → Prop} {E : Exc → Prop} {a b c d k : Int} {n m p q : Nat}
section
variable {x y l : Z2}
theorem pm_unit (hk : k = 4 ∨ k = 3) (h : pmB k l = true) {i j : Nat} (hi : i < un k) (hj : j < un k) : pmB k (mu k (mu k l (uz k j)) (uz k i)) = decide (i = bk k j) := by
  rw [mu_assoc hk, uz_mul hk hj hi]
  have e5 : uz k 0 = (1, 0) := by unfold uz; split <;> rfl
  by_cases e : i = bk k j
  · subst e
    rw [← uz_mul hk hj hi, uz_bk hk hj, mu_one hk, h]; simp
  · rw [decide_eq_false e]
    cases q : pmB k (mu k l (uz k ((j + i) % un k))) with
    | false => rfl
    | true =>
      exfalso; apply e
      have e4 := unit_one hk h (Nat.mod_lt _ un_pos) q
      unfold bk
      split
      · rename_i z
        rw [z, Nat.zero_add, Nat.mod_eq_of_lt hi] at e4; exact e4
      · rcases Nat.lt_or_ge (j + i) (un k) with z | z
        · rw [Nat.mod_eq_of_lt z] at e4; omega
        · rw [Nat.mod_eq_sub_mod z, Nat.mod_eq_of_lt (by omega)] at e4; omega
theorem lcT_prim {KA : List D → Prop} {s1 s2 s3 : Slot} {f : D → Bool} {ys : List D} (hf : ∀ y ∈ ys, ∃ z : Z2, y = PP z.1 z.2 ∧ f y = pmB k z) (hl : ys.length ≤ 1000) : lcT (dgName 4) (dTru (dCall S__law_is_primary (fun _ _ => False) (daCons (dVar 0) (daCons (dVar 4) daNil)))) (dVar 4) [.val (.int k), s1, s2, s3, .un] KA ys [] = KA (ys.filter f) := by
  rw [lcT_map (f := f) (h := id)]
  · simp
  · intro y hy
    obtain ⟨z, e, hz⟩ := hf y hy
    refine ⟨[.val (.int k), s1, s2, s3, .val y], fun KG => by simp, fun KT => ?_, fun _ K => by simp⟩
    subst e
    simp [hz]
  · simp; omega
def pmD (k : Int) : D → Bool
  | .tup [.int a, .int b] => pmB k (a, b)
  | _ => false
@[simp] theorem pmD_PP : pmD k (.tup [.int a, .int b]) = pmB k (a, b) := rfl
theorem p__law_primary_one (hk : k = 4 ∨ k = 3) {j : Nat} (hj : j < un k) (hl : pmB k l = true) (hy : y = mu k l (uz k j)) [Bn n y.1] [Bn m y.2] (hn : n ≤ 500) (hm : m ≤ 500) : K (PP l.1 l.2) → S__law_primary_one [.int k, PP y.1 y.2] K E := by
  intro hK
  have i1 : Bn 500 y.1 := Bn.up ‹_› hn
  have i2 : Bn 500 y.2 := Bn.up ‹_› hm
  have hp := fun i (hi : i < un k) => by have := pm_unit hk hl hi hj; rw [← hy] at this; exact this
  have el : mu k y (uz k (bk k j)) = l := by rw [hy, mu_assoc hk, uz_bk hk hj, mu_one hk]
  rcases hk with rfl | rfl
  · have h0 := hp 0 (by decide)
    have h1 := hp 1 (by decide)
    have h2 := hp 2 (by decide)
    have h3 := hp 3 (by decide)
    rcases lt4 hj with rfl | rfl | rfl | rfl <;> simp [mu, uz, bk, un] at h0 h1 h2 h3 el <;> simp [S__law_primary_one, t__law_primary_one] <;> simp only [u__law_primary_one_1] <;> simp [-w_lcT1] <;> rw [lcT_prim (f := pmD 4) (by simp; refine ⟨⟨_, _, ⟨rfl, rfl⟩, rfl⟩, ⟨_, _, ⟨rfl, rfl⟩, rfl⟩, ⟨_, _, ⟨rfl, rfl⟩, rfl⟩, ⟨_, _, ⟨rfl, rfl⟩, rfl⟩⟩) (by simp)] <;> simp [List.filter, h0, h1, h2, h3] <;> rw [← el] at hK <;> exact hK
  · have h0 := hp 0 (by decide)
    have h1 := hp 1 (by decide)
    have h2 := hp 2 (by decide)
    have h3 := hp 3 (by decide)
    have h4 := hp 4 (by decide)
    have h5 := hp 5 (by decide)
    rcases lt6 hj with rfl | rfl | rfl | rfl | rfl | rfl <;> simp [mu, uz, bk, un] at h0 h1 h2 h3 h4 h5 el <;> simp [S__law_primary_one, t__law_primary_one] <;> simp only [u__law_primary_one_1] <;> simp [-w_lcT1] <;> rw [lcT_prim (f := pmD 3) (by simp; refine ⟨⟨_, _, ⟨rfl, rfl⟩, rfl⟩, ⟨_, _, ⟨rfl, rfl⟩, rfl⟩, ⟨_, _, ⟨rfl, rfl⟩, rfl⟩, ⟨_, _, ⟨rfl, rfl⟩, rfl⟩, ⟨_, _, ⟨rfl, rfl⟩, rfl⟩, ⟨_, _, ⟨rfl, rfl⟩, rfl⟩⟩) (by simp)] <;> simp [List.filter, h0, h1, h2, h3, h4, h5] <;> rw [← el] at hK <;> exact hK
theorem p__law_primary (hk : k = 4 ∨ k = 3) {f : Int} {F : Nat} (hf : f = F) (h0 : F ≤ 1000) (h : ∀ x : Z2, pmB k x = true → -(3 * 10 ^ F + 2) ≤ x.1 → x.1 ≤ 3 * 10 ^ F + 2 → -(3 * 10 ^ F + 2) ≤ x.2 → x.2 ≤ 3 * 10 ^ F + 2 → K (PP x.1 x.2)) : S__law_primary [.pen, .int k, .int f] K E := by
  simp [S__law_primary, t__law_primary]
  refine p__law_letters hf (by omega) fun a b a0 a1 b0 b1 => ?_
  have hp : (0 : Int) < 10 ^ F := Int.pow_pos (by decide)
  rcases hk with rfl | rfl
  · simp
    split
    · rename_i c
      exact h (2 * a + 1, 2 * b) (by simp [pmB]; omega) (by simp; omega) (by simp; omega) (by simp; omega) (by simp; omega)
    · split
      · rename_i c
        exact h (-(2 * a + 1), -(2 * b)) (by simp [pmB]; omega) (by simp; omega) (by simp; omega) (by simp; omega) (by simp; omega)
      · exact h (2 * a + 1, 2 * b + 2) (by simp [pmB]; omega) (by simp; omega) (by simp; omega) (by simp; omega) (by simp; omega)
  · simp
    exact h (3 * a + 1, 3 * b) (by simp [pmB]) (by simp; omega) (by simp; omega) (by simp; omega) (by simp; omega)
theorem p__law_some_letters (h : ∀ x : Z2, x ≠ (0, 0) → -1000 < x.1 → x.1 < 1000 → -1000 < x.2 → x.2 < 1000 → K (PP x.1 x.2)) : S__law_some_letters [.pen] K E := by
  have one : ∀ a b : Int, -1000 < a → a < 1000 → -1000 < b → b < 1000 → kNe (PP a b) (.tup [.int 0, .int 0]) (Kb fun b' => if b' = true then K (PP a b) else K (.tup [.int 1, .int 2])) := by
    intro a b a0 a1 b0 b1
    simp
    by_cases z : a = 0 ∧ b = 0
    · rw [if_neg (by omega)]
      exact h (1, 2) (by simp) (by decide) (by decide) (by decide) (by decide)
    · rw [if_pos (by omega)]
      exact h (a, b) (fun q => z (by injection q with q1 q2; exact ⟨q1, q2⟩)) a0 a1 b0 b1
  have two : ∀ a b : Int, -1000 < a → a < 1000 → -1000 < b → b < 1000 → S__law_pick [.pen, .lst [PP a b, PP a b, .tup [.int a, .int 0], .tup [.int 0, .int b]]] (fun d => kNe d (D.tup [D.int 0, D.int 0]) (Kb fun b => if b = true then K d else K (D.tup [D.int 1, D.int 2]))) E := by
    intro a b a0 a1 b0 b1
    refine p__law_pick (by simp) (by simp) fun d hd => ?_
    simp only [List.mem_cons, List.not_mem_nil, or_false] at hd
    rcases hd with rfl | rfl | rfl | rfl
    · exact one a b a0 a1 b0 b1
    · exact one a b a0 a1 b0 b1
    · exact one a 0 a0 a1 (by decide) (by decide)
    · exact one 0 b (by decide) (by decide) b0 b1
  simp [S__law_some_letters, t__law_some_letters]
  refine p__law_pick (by simp) (by simp) fun d hd => ?_
  simp only [List.mem_cons, List.not_mem_nil, or_false] at hd
  rcases hd with rfl | rfl | rfl | rfl
  · exact p__law_letters (F := 1) rfl (by decide) fun a b a0 a1 b0 b1 => by simpa using two a b (by omega) (by omega) (by omega) (by omega)
  · exact p__law_letters (F := 1) rfl (by decide) fun a b a0 a1 b0 b1 => by simpa using two a b (by omega) (by omega) (by omega) (by omega)
  · exact p__law_letters (F := 2) rfl (by decide) fun a b a0 a1 b0 b1 => by simpa using two a b (by omega) (by omega) (by omega) (by omega)
  · exact p__law_letters (F := 3) rfl (by decide) fun a b a0 a1 b0 b1 => by simpa using two a b (by omega) (by omega) (by omega) (by omega)
end
end
end DL

set_option Elab.async false
set_option linter.all false
set_option maxRecDepth 100000
set_option maxHeartbeats 4000000
namespace DL
open PySem PySem.Spec PyProof.Rows L2 LamX
section
variable {K : D → Prop} {E : Exc → Prop} {a b c d k : Int} {n m p q : Nat}
section
variable {x y l g L : Z2}
theorem pm_mul (hk : k = 4 ∨ k = 3) (h1 : pmB k x = true) (h2 : pmB k y = true) : pmB k (mu k x y) = true := by
  rcases hk with rfl | rfl
  · simp [pmB] at h1 h2
    have c1 : ∃ a b : Int, (x.1 = 4 * a + 1 ∧ x.2 = 4 * b) ∨ (x.1 = 4 * a + 3 ∧ x.2 = 4 * b + 2) := ⟨x.1 / 4, x.2 / 4, by omega⟩
    have c2 : ∃ a b : Int, (y.1 = 4 * a + 1 ∧ y.2 = 4 * b) ∨ (y.1 = 4 * a + 3 ∧ y.2 = 4 * b + 2) := ⟨y.1 / 4, y.2 / 4, by omega⟩
    obtain ⟨a, b, c1⟩ := c1
    obtain ⟨c, d, c2⟩ := c2
    simp only [pmB, mu, pr1]
    simp
    rcases c1 with ⟨e1, e2⟩ | ⟨e1, e2⟩ <;> rcases c2 with ⟨e3, e4⟩ | ⟨e3, e4⟩ <;> rw [e1, e2, e3, e4]
    · have p1 : (4 * a + 1) * (4 * c + 1) - 4 * b * (4 * d) = 4 * (4 * a * c + a + c - 4 * b * d) + 1 := by grind
      have p2 : (4 * a + 1) * (4 * d) + 4 * b * (4 * c + 1) = 4 * (4 * a * d + d + 4 * b * c + b) := by grind
      omega
    · have p1 : (4 * a + 1) * (4 * c + 3) - 4 * b * (4 * d + 2) = 4 * (4 * a * c + 3 * a + c - 4 * b * d - 2 * b) + 3 := by grind
      have p2 : (4 * a + 1) * (4 * d + 2) + 4 * b * (4 * c + 3) = 4 * (4 * a * d + d + 2 * a + 4 * b * c + 3 * b) + 2 := by grind
      omega
    · have p1 : (4 * a + 3) * (4 * c + 1) - (4 * b + 2) * (4 * d) = 4 * (4 * a * c + a + 3 * c - 4 * b * d - 2 * d) + 3 := by grind
      have p2 : (4 * a + 3) * (4 * d) + (4 * b + 2) * (4 * c + 1) = 4 * (4 * a * d + 3 * d + 4 * b * c + b + 2 * c) + 2 := by grind
      omega
    · have p1 : (4 * a + 3) * (4 * c + 3) - (4 * b + 2) * (4 * d + 2) = 4 * (4 * a * c + 3 * a + 3 * c - 4 * b * d - 2 * b - 2 * d + 1) + 1 := by grind
      have p2 : (4 * a + 3) * (4 * d + 2) + (4 * b + 2) * (4 * c + 3) = 4 * (4 * a * d + 2 * a + 3 * d + 4 * b * c + 3 * b + 2 * c + 3) := by grind
      omega
  · simp [pmB] at h1 h2
    obtain ⟨a, b, e1, e2⟩ : ∃ a b : Int, x.1 = 3 * a + 1 ∧ x.2 = 3 * b := ⟨x.1 / 3, x.2 / 3, by omega⟩
    obtain ⟨c, d, e3, e4⟩ : ∃ a b : Int, y.1 = 3 * a + 1 ∧ y.2 = 3 * b := ⟨y.1 / 3, y.2 / 3, by omega⟩
    simp only [pmB, mu, pr1]
    simp
    rw [e1, e2, e3, e4]
    have p1 : (3 * a + 1) * (3 * c + 1) - 3 * b * (3 * d) = 3 * (3 * a * c + a + c - 3 * b * d) + 1 := by grind
    have p2 : (3 * a + 1) * (3 * d) + 3 * b * (3 * c + 1) - 3 * b * (3 * d) = 3 * (3 * a * d + d + 3 * b * c + b - 3 * b * d) := by grind
    omega
theorem pm_cj (hk : k = 4 ∨ k = 3) (h : pmB k x = true) : pmB k (cj k x) = true := by
  rcases hk with rfl | rfl <;> simp [pmB, cj, ot0] at h ⊢ <;> omega
theorem N_le_of (hk : k = 4 ∨ k = 3) (h : Dv2 k x y) (hy : y ≠ (0, 0)) : N2 k x ≤ N2 k y := by
  obtain ⟨q, rfl⟩ := h
  rw [N_mu hk]
  have h1 := N_nn (x := x) hk
  have h2 : q ≠ (0, 0) := fun z => hy (by rw [z, mu0])
  have h3 := N_pos hk h2
  have : 1 * N2 k x ≤ N2 k q * N2 k x := Int.mul_le_mul_of_nonneg_right (by omega) h1
  omega
theorem bnN (hk : k = 4 ∨ k = 3) (h : N2 k x ≤ 2 ^ 100) : Bn 51 x.1 ∧ Bn 51 x.2 := bn_N hk (by
  have : (2 : Int) ^ (51 + 51) = 4 * 2 ^ 100 := by decide +kernel
  omega)
theorem evp_loop (hk : k = 4 ∨ k = 3) {N : DEnds} (hg : g ≠ (0, 0)) (hN : N2 k g ≤ 2 ^ 100) {n : Nat} (e : mu k L (epw k n) = g) (hK : N.rt (.bl true)) : ∀ (its : List D) (i : Nat) (s : Slot), i ≤ n → n - i < its.length →
    turns (dgName 4) (dSeq (dIfS (dTest (dOp kEq (dVar 3) (dVar 1))) (dSeq (dRet (dC (.bl true))) dNext) dNext) (dSeq (dSet 3 (dVal (dCall S__law_product (fun _ => E) (daCons (dVar 0) (daCons (dVar 3) (daCons (dCall S__law_even (fun _ => E) (daCons (dVar 0) daNil)) daNil)))))) dNext)) N its [.val (.int k), .val (PP g.1 g.2), .val (PP L.1 L.2), .val (PP (mu k L (epw k i)).1 (mu k L (epw k i)).2), s]
  | [], i, s, h1, h2 => by simp at h2
  | d :: its, i, s, h1, h2 => by
    have hdv : Dv2 k (mu k L (epw k i)) g := ⟨epw k (n - i), by
      rw [← e, mu_comm hk (x := epw k (n - i)), mu_assoc hk, ← epw_add hk, show i + (n - i) = n by omega]⟩
    obtain ⟨i1, i2⟩ := bnN hk (Int.le_trans (N_le_of hk hdv hg) hN)
    by_cases z : mu k L (epw k i) = g
    · rw [z]
      simpa using hK
    · have z' : ¬ ((mu k L (epw k i)).1 = g.1 ∧ (mu k L (epw k i)).2 = g.2) := fun q => z (Prod.ext q.1 q.2)
      simp [z']
      have e2 : PP ((mu k L (epw k i)).1 - (mu k L (epw k i)).2 * (evz k).2) (pr1 k (mu k L (epw k i)).1 (mu k L (epw k i)).2 1 (evz k).2) = PP (mu k L (epw k (i + 1))).1 (mu k L (epw k (i + 1))).2 := by
        have e3 : mu k L (epw k (i + 1)) = mu k (mu k L (epw k i)) (evz k) := by
          show mu k L (mu k (epw k i) (evz k)) = _
          rw [mu_assoc hk]
        rw [e3]; simp [mu, evz]
      rw [e2]
      have hi : i ≠ n := fun q => z (by rw [q]; exact e)
      exact evp_loop hk hg hN e hK its (i + 1) _ (by omega) (by rw [List.length_cons] at h2; omega)
theorem p__law_even_power (hk : k = 4 ∨ k = 3) (hg : g ≠ (0, 0)) (hN : N2 k g ≤ 2 ^ 100) {n : Nat} (hn : n < 200) (e : mu k L (epw k n) = g) : K (.bl true) → S__law_even_power [.int k, PP g.1 g.2, PP L.1 L.2] K E := by
  intro hK
  simp [S__law_even_power, t__law_even_power]
  have h := evp_loop (E := E) hk hg hN e (N := { nx := dSeq (dRet (dC (.bl false))) dNext { nx := fun _ => K .non, rt := K }, rt := K }) hK (rangeD 0 200) 0 .un (by omega) (by simp; omega)
  simpa [epw, mu_one hk] using h
end
end
end DL

set_option Elab.async false
set_option linter.all false
set_option maxRecDepth 100000
set_option maxHeartbeats 4000000
namespace DL
open PySem PySem.Spec PyProof.Rows L2 LamX
section
variable {K : D → Prop} {E : Exc → Prop} {a b c d k : Int} {n m p q : Nat}
section
variable {x y l g L : Z2} {s0 s2 s3 s4 s8 s9 s10 s11 : Slot}
theorem nn_one {a b : Int} (h1 : 0 ≤ a) (h2 : 0 ≤ b) (h : a * b = 1) : b = 1 := by
  rcases Int.lt_or_le 1 b with z | z
  · rcases Int.lt_or_le 0 a with y | y
    · have : 1 * b ≤ a * b := Int.mul_le_mul_of_nonneg_right y h2
      omega
    · have : a = 0 := by omega
      rw [this, Int.zero_mul] at h; omega
  · rcases Int.lt_or_le 0 b with y | y
    · omega
    · have : b = 0 := by omega
      rw [this, Int.mul_zero] at h; omega
/-- Euclid's laps: each makes the norm of the second one less by a quarter -/
structure LInv (k : Int) (x y : Z2) (B : Int) (i : Nat) (p : Z2 × Z2 × Slot) : Prop where
  e : EInv k x y B (p.1, p.2.1)
  q : 4 ^ i * N2 k p.2.1 ≤ 3 ^ i * B
theorem cr_9 (hk : k = 4 ∨ k = 3) (hx : N2 k x ≤ 2 ^ 100) (hy : N2 k y ≤ 2 ^ 100) (hg : g ≠ (0, 0)) (hgN : N2 k g ≤ 2 ^ 100) (dx : Dv2 k g x) (dy : Dv2 k g y) (hd : ∀ d, Dv2 k d x → Dv2 k d y → Dv2 k d g) (hK : K (.bl true)) :
    u__law_common_right_9 E { nx := fun _ => K .non, rt := K } [s0, .val (.int k), s2, s3, s4, .val (PP x.1 x.2), .val (PP y.1 y.2), .val (PP g.1 g.2), s8, .un, .un, .un] := by
  obtain ⟨i1, i2⟩ := bnN hk hx
  obtain ⟨i3, i4⟩ := bnN hk hy
  obtain ⟨i5, i6⟩ := bnN hk hgN
  have ex := dq_eq hk hg dx
  have ey := dq_eq hk hg dy
  have lex : N2 k (dq k x g) ≤ 2 ^ 100 := by
    have h1 : N2 k x = N2 k (dq k x g) * N2 k g := by rw [← N_mu hk, ← ex]
    have h2 := N_pos hk hg
    have h3 := N_nn (x := dq k x g) hk
    have : N2 k (dq k x g) * 1 ≤ N2 k (dq k x g) * N2 k g := Int.mul_le_mul_of_nonneg_left (by omega) h3
    omega
  have ley : N2 k (dq k y g) ≤ 2 ^ 100 := by
    have h1 : N2 k y = N2 k (dq k y g) * N2 k g := by rw [← N_mu hk, ← ey]
    have h2 := N_pos hk hg
    have h3 := N_nn (x := dq k y g) hk
    have : N2 k (dq k y g) * 1 ≤ N2 k (dq k y g) * N2 k g := Int.mul_le_mul_of_nonneg_left (by omega) h3
    omega
  simp only [u__law_common_right_9]
  simp
  rw [p__law_over hk (by decide) (by decide) (by decide) (by decide) hg dx]
  rw [p__law_over hk (by decide) (by decide) (by decide) (by decide) hg dy]
  refine turns_inv (α := Z2 × Z2 × Slot) (enc := fun p => [s0, .val (.int k), s2, s3, s4, .val (PP x.1 x.2), .val (PP y.1 y.2), .val (PP g.1 g.2), s8, .val (PP p.1.1 p.1.2), .val (PP p.2.1.1 p.2.1.2), p.2.2]) (f := fun p d => if p.2.1 = (0, 0) then (p.1, p.2.1, .val d) else (p.2.1, rs k p.1 p.2.1, .val d)) (Inv := LInv k (dq k x g) (dq k y g) (2 ^ 100)) (rangeD 0 400) 0 ?_ ?_ ?_ (dq k x g, dq k y g, .un) ⟨⟨fun d => Iff.rfl, lex, ley⟩, by simp; exact ley⟩
  · intro j p d _ hp M hM q
    obtain ⟨j1, j2⟩ := bnN hk hp.e.b1
    obtain ⟨j3, j4⟩ := bnN hk hp.e.b2
    by_cases z : p.2.1 = (0, 0)
    · have z1 : p.2.1.1 = 0 ∧ p.2.1.2 = 0 := by rw [z]; exact ⟨rfl, rfl⟩
      rw [if_pos z] at q
      simp [z1.1, z1.2]
      simpa [z1.1, z1.2] using q
    · have z1 : ¬ (p.2.1.1 = 0 ∧ p.2.1.2 = 0) := fun h => z (Prod.ext h.1 h.2)
      have h0 : 0 < nrm k p.2.1.1 p.2.1.2 := N_pos hk z
      rw [if_neg z] at q
      have z2 : ¬ p.2.1.1 = 0 ∨ ¬ p.2.1.2 = 0 := by omega
      simp [h0]
      rw [if_pos z2]
      exact q
  · intro j p d _ hp
    by_cases z : p.2.1 = (0, 0)
    · simp only [if_pos z]
      refine ⟨hp.e, ?_⟩
      show 4 ^ _ * N2 k p.2.1 ≤ _
      rw [z, N0, Int.mul_zero]
      exact Int.mul_nonneg (Int.le_of_lt (Int.pow_pos (by decide))) (by decide +kernel)
    · simp only [if_neg z]
      have st := hp.e.step hk z
      refine ⟨st.1, ?_⟩
      have h1 := rs_le (x := p.1) hk z
      have h2 := hp.q
      show 4 ^ (0 + j + 1) * N2 k (rs k p.1 p.2.1) ≤ 3 ^ (0 + j + 1) * 2 ^ 100
      rw [Int.pow_succ, Int.pow_succ]
      have h3 : (0 : Int) < 4 ^ (0 + j) := Int.pow_pos (by decide)
      have h4 : 4 ^ (0 + j) * (4 * N2 k (rs k p.1 p.2.1)) ≤ 4 ^ (0 + j) * (3 * N2 k p.2.1) := Int.mul_le_mul_of_nonneg_left h1 (by omega)
      have e1 : (4 : Int) ^ (0 + j) * 4 * N2 k (rs k p.1 p.2.1) = 4 ^ (0 + j) * (4 * N2 k (rs k p.1 p.2.1)) := by grind
      have e2 : (4 : Int) ^ (0 + j) * (3 * N2 k p.2.1) = 3 * (4 ^ (0 + j) * N2 k p.2.1) := by grind
      have e3 : (3 : Int) ^ (0 + j) * 3 * 2 ^ 100 = 3 * (3 ^ (0 + j) * 2 ^ 100) := by grind
      omega
  · intro p hp
    obtain ⟨j1, j2⟩ := bnN hk hp.e.b1
    have hq : 4 ^ 400 * N2 k p.2.1 ≤ 3 ^ 400 * 2 ^ 100 := by
      have := hp.q
      simpa using this
    have h1 : (3 : Int) ^ 400 * 2 ^ 100 < 4 ^ 400 := by decide +kernel
    have h2 := N_nn (x := p.2.1) hk
    have h3 : N2 k p.2.1 = 0 := by
      rcases Int.lt_or_le 0 (N2 k p.2.1) with z | z
      · have : (4 : Int) ^ 400 * 1 ≤ 4 ^ 400 * N2 k p.2.1 := Int.mul_le_mul_of_nonneg_left z (Int.le_of_lt (Int.pow_pos (by decide)))
        omega
      · omega
    have hv : p.2.1 = (0, 0) := N_zero hk h3
    have du := (hp.e.dv p.1).mp ⟨dv_refl hk, by show Dv2 k p.1 p.2.1; rw [hv]; exact dv_zero⟩
    have d1 : Dv2 k (mu k p.1 g) g := by
      apply hd
      · obtain ⟨r, er⟩ := du.1
        exact ⟨r, by rw [ex, er, mu_assoc hk]⟩
      · obtain ⟨r, er⟩ := du.2
        exact ⟨r, by rw [ey, er, mu_assoc hk]⟩
    have nu : N2 k p.1 = 1 := by
      obtain ⟨r, er⟩ := d1
      have e1 : N2 k g = N2 k r * (N2 k p.1 * N2 k g) := by rw [← N_mu hk, ← N_mu hk, ← er]
      have h4 := N_pos hk hg
      have e2 : N2 k g * (N2 k r * N2 k p.1) = N2 k g * 1 := by rw [Int.mul_one]; grind
      have e3 := Int.eq_of_mul_eq_mul_left (by omega) e2
      have h5 := N_nn (x := r) hk
      have h6 := N_nn (x := p.1) hk
      exact nn_one h5 h6 e3
    have nu' : nrm k p.1.1 p.1.2 = 1 := nu
    simp [nu', hK]
end
end
end DL

set_option Elab.async false
set_option linter.all false
set_option maxRecDepth 100000
set_option maxHeartbeats 4000000
namespace DL
open PySem PySem.Spec PyProof.Rows L2 LamX
section
variable {K : D → Prop} {E : Exc → Prop} {a b c d k : Int} {n m p q : Nat}
section
variable {x y l g L pt : Z2} {s0 s2 s3 s4 s8 s9 s10 s11 : Slot}
theorem p__law_goes_ev (hk : k = 4 ∨ k = 3) [i1 : Bn n x.1] [i2 : Bn m x.2] (hn : n ≤ 500) (hm : m ≤ 500) : S__law_goes [.int k, PP 1 (evz k).2, PP x.1 x.2] K E = K (.bl (rs k x (evz k) == (0, 0))) := by
  have i3 : Bn 2 (evz k).1 := ⟨by show (1 : Int).natAbs < 2 ^ 2; decide⟩
  exact p__law_goesZ (x := x) (y := evz k) hk hn hm (by decide) (by decide) evz_ne
theorem p__law_over_ev (hk : k = 4 ∨ k = 3) [i1 : Bn n x.1] [i2 : Bn m x.2] (hn : n ≤ 500) (hm : m ≤ 500) (hd : Dv2 k (evz k) x) : S__law_over [.int k, PP x.1 x.2, PP 1 (evz k).2] K E = K (PP (dq k x (evz k)).1 (dq k x (evz k)).2) := by
  have i3 : Bn 2 (evz k).1 := ⟨by show (1 : Int).natAbs < 2 ^ 2; decide⟩
  exact p__law_over (x := x) (y := evz k) hk hn hm (by decide) (by decide) evz_ne hd
/-- what is known of a common part -/
structure CPt (k : Int) (x y g : Z2) (n : Nat) (l : Z2) : Prop where
  hx : N2 k x ≤ 2 ^ 100
  hy : N2 k y ≤ 2 ^ 100
  hg : g ≠ (0, 0)
  hgN : N2 k g ≤ 2 ^ 100
  hd : ∀ d, Dv2 k d g ↔ (Dv2 k d x ∧ Dv2 k d y)
  e : g = mu k (epw k n) l
  hl : pmB k l = true
  hn : n < 200
theorem cr_8 (hk : k = 4 ∨ k = 3) {n : Nat} (h : CPt k x y g n l) (hK : K (.bl true)) :
    u__law_common_right_8 E { nx := fun _ => K .non, rt := K } [s0, .val (.int k), s2, s3, s4, .val (PP x.1 x.2), .val (PP y.1 y.2), .val (PP g.1 g.2), .val (PP l.1 l.2), .un, .un, .un] := by
  have dd := (h.hd g).mp (dv_refl hk)
  simp only [u__law_common_right_8]
  simp [h.hl]
  refine p__law_even_power hk h.hg h.hgN h.hn (by rw [mu_comm hk, h.e]) ?_
  simp
  exact cr_9 hk h.hx h.hy h.hg h.hgN dd.1 dd.2 (fun d a b => (h.hd d).mpr ⟨a, b⟩) hK
theorem cr_6 (hk : k = 4 ∨ k = 3) {n : Nat} (h : CPt k x y g n l) (hK : K (.bl true)) :
    u__law_common_right_6 E { nx := fun _ => K .non, rt := K } [s0, .val (.int k), s2, s3, s4, .val (PP x.1 x.2), .val (PP y.1 y.2), .val (PP g.1 g.2), .un, .un, .un, .un] := by
  have hB : ∀ p, PInv k g p → Bn 51 p.1.1 ∧ Bn 51 p.1.2 := fun p hp => by
    have h1 := N_nn (x := p.1) hk
    have h2 : (1 : Int) ≤ 2 ^ p.2 := Int.pow_pos (by decide)
    have h3 : N2 k p.1 * 1 ≤ N2 k p.1 * 2 ^ p.2 := Int.mul_le_mul_of_nonneg_left h2 h1
    have h4 := hp.le
    have h5 := h.hgN
    exact bnN hk (by omega)
  simp only [u__law_common_right_6]
  simp
  refine while_inv (α := Z2 × Nat) (enc := fun p => [s0, .val (.int k), s2, s3, s4, .val (PP x.1 x.2), .val (PP y.1 y.2), .val (PP g.1 g.2), .val (PP p.1.1 p.1.2), .un, .un, .un]) (c := fun p => rs k p.1 (evz k) == (0, 0)) (f := fun p => (dq k p.1 (evz k), p.2 + 1)) (μ := fun p => (N2 k p.1).toNat) (Inv := PInv k g) ?_ ?_ ?_ ?_ ?_ (g, 0) (PInv.start hk h.hg)
  · intro p hp KT q
    obtain ⟨i1, i2⟩ := hB p hp
    simp [-p__law_goes]
    rw [p__law_goes_ev hk (by decide) (by decide), w_Kt1]
    exact q
  · intro p hp hc M _ q
    obtain ⟨i1, i2⟩ := hB p hp
    have dv := (rs_zero hk evz_ne).mp (eq_of_beq hc)
    simp
    rw [p__law_over_ev hk (by decide) (by decide) dv]
    exact q
  · intro p hp hc
    exact (hp.step hk ((rs_zero hk evz_ne).mp (eq_of_beq hc))).2
  · intro p hp hc
    exact (hp.step hk ((rs_zero hk evz_ne).mp (eq_of_beq hc))).1
  · intro p hp hc
    have nd : ¬ Dv2 k (evz k) p.1 := fun z => by
      have e := (rs_zero hk evz_ne).mpr z
      rw [e] at hc; exact absurd hc (by simp)
    have u := epw_uniq hk nd (pm_ev hk h.hl) (m := p.2) (n := n) (by rw [hp.eq, h.e, mu_comm hk])
    rw [u.2]
    exact cr_8 hk h hK
/-- goes, by dividing -/
theorem goesT (hk : k = 4 ∨ k = 3) (hx : N2 k x ≤ 2 ^ 100) (hg : N2 k g ≤ 2 ^ 100) (h0 : g ≠ (0, 0)) (hd : Dv2 k g x) : S__law_goes [.int k, PP g.1 g.2, PP x.1 x.2] K E = K (.bl true) := by
  obtain ⟨i1, i2⟩ := bnN hk hx
  obtain ⟨i3, i4⟩ := bnN hk hg
  rw [p__law_goesZ hk (by decide) (by decide) (by decide) (by decide) h0, (rs_zero hk h0).mpr hd]
  rfl
theorem cr_5 (hk : k = 4 ∨ k = 3) {n : Nat} (h : CPt k x y g n l) (hp0 : pt ≠ (0, 0)) (hpN : N2 k pt ≤ 2 ^ 100) (hpg : Dv2 k pt g) (hK : K (.bl true)) :
    u__law_common_right_5 E { nx := fun _ => K .non, rt := K } [s0, .val (.int k), .val (PP pt.1 pt.2), s3, s4, .val (PP x.1 x.2), .val (PP y.1 y.2), .val (PP g.1 g.2), .un, .un, .un, .un] := by
  have dd := (h.hd g).mp (dv_refl hk)
  have h0 : ¬ (g.1 = 0 ∧ g.2 = 0) := fun z => h.hg (Prod.ext z.1 z.2)
  simp only [u__law_common_right_5]
  simp [h0, -p__law_goes, goesT hk h.hx h.hgN h.hg dd.1, goesT hk h.hy h.hgN h.hg dd.2, goesT hk h.hgN hpN hp0 hpg]
  exact cr_6 hk h hK
/-- bounds: part below 1000, the others to 10 ^ 8 -/
theorem prodN (hk : k = 4 ∨ k = 3) {a b : Z2} (h1 : -1000 < a.1 ∧ a.1 < 1000) (h2 : -1000 < a.2 ∧ a.2 < 1000) (h3 : -(10 ^ 8) < b.1 ∧ b.1 < 10 ^ 8) (h4 : -(10 ^ 8) < b.2 ∧ b.2 < 10 ^ 8) : N2 k (mu k a b) ≤ 2 ^ 78 ∧ Lt (mu k a b).1 ∧ Lt (mu k a b).2 := by
  have sq : ∀ {v B : Int}, -B < v → v < B → v * v < B * B := fun {v B} u1 u2 => (mul_bd u1 u2 u1 u2).2
  have nb : ∀ {z : Z2} {B : Int}, -B < z.1 → z.1 < B → -B < z.2 → z.2 < B → N2 k z ≤ 3 * (B * B) := fun {z B} u1 u2 u3 u4 => by
    have a1 := mul_bd u1 u2 u1 u2
    have a2 := mul_bd u3 u4 u3 u4
    have a3 := mul_bd u1 u2 u3 u4
    unfold N2 nrm; split <;> omega
  have n1 := nb h1.1 h1.2 h2.1 h2.2
  have n2 := nb (z := b) (B := 10 ^ 8) h3.1 h3.2 h4.1 h4.2
  have p1 := mul_bd h1.1 h1.2 h3.1 h3.2
  have p2 := mul_bd h2.1 h2.2 h4.1 h4.2
  have p3 := mul_bd h1.1 h1.2 h4.1 h4.2
  have p4 := mul_bd h2.1 h2.2 h3.1 h3.2
  refine ⟨?_, ?_, ?_⟩
  · rw [N_mu hk]
    have m0 := N_nn (x := b) hk
    have m1 : N2 k a * N2 k b ≤ (3 * (1000 * 1000)) * N2 k b := Int.mul_le_mul_of_nonneg_right n1 m0
    have e1 : (2 : Int) ^ 78 = 302231454903657293676544 := by decide +kernel
    omega
  · unfold Lt mu; simp only []; omega
  · unfold Lt mu pr1; simp only []; split <;> omega
theorem cr_2 (hk : k = 4 ∨ k = 3) (hp0 : pt ≠ (0, 0)) (hpN : N2 k pt ≤ 2 ^ 78) (hx : N2 k x ≤ 2 ^ 78) (hy : N2 k y ≤ 2 ^ 78) (dx : Dv2 k pt x) (dy : Dv2 k pt y) (x1 : Lt x.1) (x2 : Lt x.2) (y1 : Lt y.1) (y2 : Lt y.2) (hK : K (.bl true)) :
    u__law_common_right_3 E { nx := fun _ => K .non, rt := K } [s0, .val (.int k), .val (PP pt.1 pt.2), s3, s4, .val (PP x.1 x.2), .val (PP y.1 y.2), .un, .un, .un, .un, .un] := by
  have e76 : (2 : Int) ^ 78 ≤ 2 ^ 100 := by decide +kernel
  have i1 := bn_lt hk x1
  have i2 := bn_lt hk x2
  have i3 := bn_lt hk y1
  have i4 := bn_lt hk y2
  simp only [u__law_common_right_3]
  simp
  refine p_common_part hk x1 x2 y1 y2 (p_common_by hk (Bn.up i1 (by decide)) (Bn.up i2 (by decide)) (Bn.up i3 (by decide)) (Bn.up i4 (by decide)) (fun h1 h2 => ?_) fun n l hl hn hne hd => ?_)
  · subst h1; subst h2
    simp only [u__law_common_right_4]
    simp [hK]
  · have hne2 : ¬ (x = (0, 0) ∧ y = (0, 0)) := fun z => by
      have := (hd (0, 0)).mpr ⟨by rw [z.1]; exact dv_refl hk, by rw [z.2]; exact dv_refl hk⟩
      exact hne (zero_dv this)
    have hgN : N2 k (mu k (epw k n) l) ≤ 2 ^ 78 := by
      have dd := (hd _).mp (dv_refl hk)
      by_cases z : x = (0, 0)
      · exact Int.le_trans (N_le_of hk dd.2 (fun q => hne2 ⟨z, q⟩)) hy
      · exact Int.le_trans (N_le_of hk dd.1 z) hx
    have hn2 : n < 200 := by
      rcases Nat.lt_or_ge n 200 with z | z
      · exact z
      · have h1 := N_epw hk n
        have h2 : Dv2 k (epw k n) (mu k (epw k n) l) := ⟨l, mu_comm hk⟩
        have h3 := N_le_of hk h2 hne
        have h4 : (2 : Nat) ^ 200 ≤ 2 ^ n := Nat.pow_le_pow_right (by decide) z
        have e1 := pow_cast 200
        have e2 := pow_cast n
        have e3 : (2 : Int) ^ 78 < 2 ^ 200 := by decide +kernel
        omega
    have cp : CPt k x y (mu k (epw k n) l) n l := ⟨Int.le_trans hx e76, Int.le_trans hy e76, hne, Int.le_trans hgN e76, hd, rfl, hl, hn2⟩
    have hz : ¬ ((x.1 = 0 ∧ x.2 = 0) ∧ (y.1 = 0 ∧ y.2 = 0)) := fun z => hne2 ⟨Prod.ext z.1.1 z.1.2, Prod.ext z.2.1 z.2.2⟩
    have fin := cr_5 (E := E) (K := K) (s0 := s0) (s3 := s3) (s4 := s4) hk cp hp0 (Int.le_trans hpN e76) ((hd pt).mpr ⟨dx, dy⟩) hK
    simp only [u__law_common_right_4]
    by_cases z1 : x.1 = 0 ∧ x.2 = 0
    · have z2 : ¬ (y.1 = 0 ∧ y.2 = 0) := fun q => hz ⟨z1, q⟩
      simp [z1, z2]
      simpa [z1] using fin
    · simp [z1]
      exact fin
theorem p__law_common_right (hk : k = 4 ∨ k = 3) (hK : K (.bl true)) : S__law_common_right [.pen, .int k] K E := by
  have go : ∀ (p a b : Z2), p ≠ (0, 0) → (-1000 < p.1 ∧ p.1 < 1000) → (-1000 < p.2 ∧ p.2 < 1000) → (-(10 ^ 8) < a.1 ∧ a.1 < 10 ^ 8) → (-(10 ^ 8) < a.2 ∧ a.2 < 10 ^ 8) → (-(10 ^ 8) < b.1 ∧ b.1 < 10 ^ 8) → (-(10 ^ 8) < b.2 ∧ b.2 < 10 ^ 8) →
      u__law_common_right_2 E { nx := fun _ => K .non, rt := K } [.val .pen, .val (.int k), .val (PP p.1 p.2), .val (PP a.1 a.2), .val (PP b.1 b.2), .val (PP (mu k p a).1 (mu k p a).2), .val (PP (mu k p b).1 (mu k p b).2), .un, .un, .un, .un, .un] := by
    intro p a b h0 h1 h2 h3 h4 h5 h6
    obtain ⟨n1, l1, l2⟩ := prodN hk h1 h2 h3 h4
    obtain ⟨n2, l3, l4⟩ := prodN hk h1 h2 h5 h6
    obtain ⟨n3, _, _⟩ := prodN hk h1 h2 (b := (1, 0)) (by simp) (by simp)
    rw [mu_one hk] at n3
    have d1 : Dv2 k p (mu k p a) := ⟨a, mu_comm hk⟩
    have d2 : Dv2 k p (mu k p b) := ⟨b, mu_comm hk⟩
    simp only [u__law_common_right_2]
    simp
    rw [p__law_draw (by decide) (by decide)]
    intro r r0 r1
    simp only [k_eqI, w_Kb, decide_eq_true_eq]
    by_cases hr : r = 0
    · rw [if_pos hr]
      exact cr_2 hk h0 n3 n2 n2 d2 d2 l3 l4 l3 l4 hK
    · rw [if_neg hr]
      exact cr_2 hk h0 n3 n1 n2 d1 d2 l1 l2 l3 l4 hK
  simp [S__law_common_right, t__law_common_right]
  refine p__law_some_letters fun p h0 h1 h2 h3 h4 => ?_
  have menu : ∀ (K : D → Prop) (xs : List D), 0 < xs.length → xs.length < 100 → (∀ d ∈ xs, d = .int 0 ∨ d = .int 1 ∨ d = .int 2 ∨ d = .int 8) → (∀ a b : Int, -(10 ^ 8) < a → a < 10 ^ 8 → -(10 ^ 8) < b → b < 10 ^ 8 → K (PP a b)) → S__law_pick [.pen, .lst xs] (fun d => S__law_letters [.pen, d] K E) E := by
    intro K xs l0 l1 hx h
    refine p__law_pick l0 (by omega) fun d hd => ?_
    rcases hx d hd with rfl | rfl | rfl | rfl
    · exact p__law_letters (F := 0) rfl (by decide) fun a b a0 a1 b0 b1 => h a b (by omega) (by omega) (by omega) (by omega)
    · exact p__law_letters (F := 1) rfl (by decide) fun a b a0 a1 b0 b1 => h a b (by omega) (by omega) (by omega) (by omega)
    · exact p__law_letters (F := 2) rfl (by decide) fun a b a0 a1 b0 b1 => h a b (by omega) (by omega) (by omega) (by omega)
    · exact p__law_letters (F := 8) rfl (by decide) fun a b a0 a1 b0 b1 => h a b (by omega) (by omega) (by omega) (by omega)
  refine menu _ _ (by simp) (by simp) (by simp) fun a b a0 a1 b0 b1 => ?_
  refine menu _ _ (by simp) (by simp) (by simp) fun c d c0 c1 d0 d1 => ?_
  have g := go p (a, b) (c, d) h0 ⟨h1, h2⟩ ⟨h3, h4⟩ ⟨a0, a1⟩ ⟨b0, b1⟩ ⟨c0, c1⟩ ⟨d0, d1⟩
  have i1 : Bn 10 p.1 := bn_of (by omega) (by omega)
  have i2 : Bn 10 p.2 := bn_of (by omega) (by omega)
  have i3 : Bn 30 a := bn_of (by omega) (by omega)
  have i4 : Bn 30 b := bn_of (by omega) (by omega)
  have i5 : Bn 30 c := bn_of (by omega) (by omega)
  have i6 : Bn 30 d := bn_of (by omega) (by omega)
  simpa [mu] using g
end
end
end DL

set_option Elab.async false
set_option linter.all false
set_option maxRecDepth 100000
set_option maxHeartbeats 4000000
namespace DL
open PySem PySem.Spec PyProof.Rows L2 LamX
section
variable {K : D → Prop} {E : Exc → Prop} {a b c d k : Int} {n m p q : Nat}
section
variable {x y l g L : Z2} {hd : D} {s0 s2 s3 s4 s5 s6 s7 s8 s9 s10 : Slot}
theorem r_12 (hk : k = 4 ∨ k = 3) (hK : K (.bl true)) : u__law_right_12 E { nx := fun _ => K .non, rt := K } [.val .pen, .val (.int k), s2, s3, s4, s5, s6, s7, s8, s9, s10, .un, .un, .un, .un] := by
  simp only [u__law_right_12]
  simp
  refine p__law_primary (F := 3) hk rfl (by decide) fun u pu u1 u2 u3 u4 => ?_
  refine p__law_primary (F := 3) hk rfl (by decide) fun v pv v1 v2 v3 v4 => ?_
  have m1 := mul_bd (x := u.1) (y := v.1) (p := 3003) (q := 3003) (by omega) (by omega) (by omega) (by omega)
  have m2 := mul_bd (x := u.2) (y := v.2) (p := 3003) (q := 3003) (by omega) (by omega) (by omega) (by omega)
  have m3 := mul_bd (x := u.1) (y := v.2) (p := 3003) (q := 3003) (by omega) (by omega) (by omega) (by omega)
  have m4 := mul_bd (x := u.2) (y := v.1) (p := 3003) (q := 3003) (by omega) (by omega) (by omega) (by omega)
  have i1 : Bn 20 u.1 := bn_of (by omega) (by omega)
  have i2 : Bn 20 u.2 := bn_of (by omega) (by omega)
  have i3 : Bn 20 v.1 := bn_of (by omega) (by omega)
  have i4 : Bn 20 v.2 := bn_of (by omega) (by omega)
  have e1 := fun K E => p_is_primary (x := mu k u v) (K := K) (E := E) hk (.inl rfl) (by unfold Lt mu; simp only []; omega) (by unfold Lt mu pr1; simp only []; split <;> omega)
  have e2 := fun K E => p_is_primary (x := cj k u) (K := K) (E := E) hk (.inl rfl) (by unfold Lt cj ot0; simp only []; split <;> omega) (by unfold Lt cj; simp only []; omega)
  have e3 := fun K E => p_is_primary (x := u) (K := K) (E := E) hk (.inl rfl) (by unfold Lt; omega) (by unfold Lt; omega)
  rw [pm_mul hk pu pv] at e1
  rw [pm_cj hk pu] at e2
  rw [pu] at e3
  simp only [mu, cj] at e1 e2
  simp [e1, e2, e3, List.replicate]
  exact p__law_common_right hk hK
theorem r_10 (hk : k = 4 ∨ k = 3) {n j : Nat} (hN : N2 k x ≤ 2 ^ 100) (pt : Ptd k x n j l) (hy : y = mu k l (uz k j)) (hx : x ≠ (0, 0)) (hK : K (.bl true)) :
    u__law_right_10 E { nx := fun _ => K .non, rt := K } [.val .pen, .val (.int k), s2, s3, s4, s5, .val (.int n), .val (.int j), .val (PP l.1 l.2), .val (PP y.1 y.2), .val (.int n), .un, .un, .un, .un] := by
  have hly := Int.le_trans (pt.le hk) hN
  have hNy : N2 k y ≤ 2 ^ 100 := by rw [hy, N_mu hk, N_uz hk pt.hj, Int.mul_one]; exact hly
  obtain ⟨i1, i2⟩ := bnN hk hly
  obtain ⟨i3, i4⟩ := bnN hk hNy
  have hj := pt.hj
  have hu : ((if k = 4 then [PP 1 0, PP 0 1, PP (-1) 0, PP 0 (-1)] else [PP 1 0, PP 1 1, PP 0 1, PP (-1) 0, PP (-1) (-1), PP 0 (-1)] : List D)).length = un k := by
    unfold un; split <;> rfl
  have hat : atI (if k = 4 then [PP 1 0, PP 0 1, PP (-1) 0, PP 0 (-1)] else [PP 1 0, PP 1 1, PP 0 1, PP (-1) 0, PP (-1) (-1), PP 0 (-1)] : List D) (j : Int) = some (PP (uz k j).1 (uz k j).2) := by
    rw [at_nat]
    rcases hk with rfl | rfl
    · rcases lt4 hj with rfl | rfl | rfl | rfl <;> simp [uz]
    · rcases lt6 hj with rfl | rfl | rfl | rfl | rfl | rfl <;> simp [uz]
  have hjl : (j : Int) < (un k : Int) := by omega
  have iu1 : Bn 2 (uz k j).1 := ⟨by
    rcases hk with rfl | rfl
    · rcases lt4 hj with rfl | rfl | rfl | rfl <;> decide
    · rcases lt6 hj with rfl | rfl | rfl | rfl | rfl | rfl <;> decide⟩
  have iu2 : Bn 2 (uz k j).2 := ⟨by
    rcases hk with rfl | rfl
    · rcases lt4 hj with rfl | rfl | rfl | rfl <;> decide
    · rcases lt6 hj with rfl | rfl | rfl | rfl | rfl | rfl <;> decide⟩
  have ey1 : (uz k j).1 * l.1 - (uz k j).2 * l.2 = y.1 := by rw [hy, mu_comm hk]; rfl
  have ey2 : pr1 k (uz k j).1 (uz k j).2 l.1 l.2 = y.2 := by rw [hy, mu_comm hk]; rfl
  simp only [u__law_right_10]
  simp [hu, hat, hjl]
  refine p__law_primary_one hk hj pt.prim hy (by decide) (by decide) ?_
  simp
  rw [if_neg (by simp [ey1, ey2])]
  exact r_12 hk hK
theorem bn_Lt {a : Int} (h : Bn 51 a) : Lt a := by
  have := h.h
  unfold Lt; omega
theorem r_9 (hk : k = 4 ∨ k = 3) {n j : Nat} (hN : N2 k x ≤ 2 ^ 100) (pt : Ptd k x n j l) (hx : x ≠ (0, 0)) (hK : K (.bl true)) :
    u__law_right_9 E { nx := fun _ => K .non, rt := K } [.val .pen, .val (.int k), s2, s3, s4, s5, .val (.int n), .val (.int j), .val (PP l.1 l.2), .val (PP x.1 x.2), .val (.int 0), .un, .un, .un, .un] := by
  have hB : ∀ p, PInv k x p → Bn 51 p.1.1 ∧ Bn 51 p.1.2 := fun p hp => by
    have h1 := N_nn (x := p.1) hk
    have h2 : (1 : Int) ≤ 2 ^ p.2 := Int.pow_pos (by decide)
    have h3 : N2 k p.1 * 1 ≤ N2 k p.1 * 2 ^ p.2 := Int.mul_le_mul_of_nonneg_left h2 h1
    have h4 := hp.le
    exact bnN hk (by omega)
  simp only [u__law_right_9]
  simp
  refine while_inv (α := Z2 × Nat) (enc := fun p => [.val .pen, .val (.int k), s2, s3, s4, s5, .val (.int n), .val (.int j), .val (PP l.1 l.2), .val (PP p.1.1 p.1.2), .val (.int p.2), .un, .un, .un, .un]) (c := fun p => rs k p.1 (evz k) == (0, 0)) (f := fun p => (dq k p.1 (evz k), p.2 + 1)) (μ := fun p => (N2 k p.1).toNat) (Inv := PInv k x) ?_ ?_ ?_ ?_ ?_ (x, 0) (PInv.start hk hx)
  · intro p hp KT q
    obtain ⟨i1, i2⟩ := hB p hp
    simp [-p__law_goes]
    rw [p__law_goes_ev hk (by decide) (by decide), w_Kt1]
    exact q
  · intro p hp hc M _ q
    obtain ⟨i1, i2⟩ := hB p hp
    have dv := (rs_zero hk evz_ne).mp (eq_of_beq hc)
    simp
    rw [p__law_over_ev hk (by decide) (by decide) dv]
    exact q
  · intro p hp hc
    exact (hp.step hk ((rs_zero hk evz_ne).mp (eq_of_beq hc))).2
  · intro p hp hc
    exact (hp.step hk ((rs_zero hk evz_ne).mp (eq_of_beq hc))).1
  · intro p hp hc
    have nd : ¬ Dv2 k (evz k) p.1 := fun z => by
      have e := (rs_zero hk evz_ne).mpr z
      rw [e] at hc; exact absurd hc (by simp)
    have nd2 : ¬ Dv2 k (evz k) (mu k l (uz k j)) := fun z => pm_ev hk pt.prim ((unit_dv hk pt.hj).mp z)
    have u := epw_uniq hk nd nd2 (m := p.2) (n := n) (by rw [hp.eq, pt.eq])
    obtain ⟨y, m⟩ := p
    obtain ⟨u1, u2⟩ := u
    have u1 : m = n := u1
    subst u1
    exact r_10 hk hN pt u2 hx hK
theorem r_4 (hk : k = 4 ∨ k = 3) (hN : N2 k x ≤ 2 ^ 100) (hh : isZ hd x) (hK : K (.bl true)) :
    u__law_right_3 E { nx := fun _ => K .non, rt := K } [.val .pen, .val (.int k), .val (PP x.1 x.2), s3, .val hd, .un, .un, .un, .un, .un, .un, .un, .un, .un, .un] := by
  obtain ⟨i1, i2⟩ := bnN hk hN
  have l1 := bn_Lt i1
  have l2 := bn_Lt i2
  simp only [u__law_right_3]
  simp
  rw [p_is_primary hk hh l1 l2]
  simp only [p_says]
  simp
  simp only [u__law_right_4]
  by_cases hx : x = (0, 0)
  · subst hx
    have h0 : Lt 0 := by unfold Lt; omega
    simp [S__law_two, t__law_two, S_primary_of, t_primary_of, hk, h0, hK]
  · have h0 : ¬ (x.1 = 0 ∧ x.2 = 0) := fun z => hx (Prod.ext z.1 z.2)
    simp [h0]
    simp only [u__law_right_5]
    simp
    refine p_primary_of hk hh l1 l2 hx fun n j l pt hn => ?_
    simp only [u__law_right_6]
    simp [S__law_is_whole, t__law_is_whole]
    simp only [u__law_right_7]
    simp
    exact r_9 hk hN pt hx hK
theorem lap_loop (hk : k = 4 ∨ k = 3) {x0 : Z2} {N : DEnds} (hN : N2 k x0 ≤ 2 ^ 70) : ∀ (its : List D) (j : Nat) (s : Slot), j + its.length ≤ 3 → (∀ s, N.nx [.val .pen, .val (.int k), .val (PP (mu k x0 (epw k (j + its.length))).1 (mu k x0 (epw k (j + its.length))).2), s, .un, .un, .un, .un, .un, .un, .un, .un, .un, .un, .un]) →
    turns (dgName 3) (dSeq (dSet 2 (dVal (dCall S__law_product (fun _ => E) (daCons (dVar 1) (daCons (dVar 2) (daCons (dCall S__law_even (fun _ => E) (daCons (dVar 1) daNil)) daNil)))))) dNext) N its [.val .pen, .val (.int k), .val (PP (mu k x0 (epw k j)).1 (mu k x0 (epw k j)).2), s, .un, .un, .un, .un, .un, .un, .un, .un, .un, .un, .un]
  | [], j, s, hl, h => by simpa using h s
  | d :: its, j, s, hl, h => by
    rw [List.length_cons] at hl
    have hb : N2 k (mu k x0 (epw k j)) ≤ 2 ^ 100 := by
      rw [N_mu hk]
      have h1 := N_epw_le hk j
      have h2 : (4 : Nat) ^ j ≤ 4 ^ 3 := Nat.pow_le_pow_right (by decide) (by omega)
      have e2 : ((4 ^ j : Nat) : Int) = (4 : Int) ^ j := by rw [Int.natCast_pow]; rfl
      have h3 := N_nn (x := x0) hk
      have h4 : N2 k x0 * N2 k (epw k j) ≤ N2 k x0 * 64 := Int.mul_le_mul_of_nonneg_left (by omega) h3
      omega
    obtain ⟨i1, i2⟩ := bnN hk hb
    simp
    have e2 : PP ((mu k x0 (epw k j)).1 - (mu k x0 (epw k j)).2 * (evz k).2) (pr1 k (mu k x0 (epw k j)).1 (mu k x0 (epw k j)).2 1 (evz k).2) = PP (mu k x0 (epw k (j + 1))).1 (mu k x0 (epw k (j + 1))).2 := by
      have e3 : mu k x0 (epw k (j + 1)) = mu k (mu k x0 (epw k j)) (evz k) := by
        show mu k x0 (mu k (epw k j) (evz k)) = _
        rw [mu_assoc hk]
      rw [e3]; simp [mu, evz]
    rw [e2]
    exact lap_loop hk hN its (j + 1) _ (by omega) (fun s => by have := h s; rw [List.length_cons] at this; rwa [show j + 1 + its.length = j + (its.length + 1) by omega])
theorem p__law_right (hk : k = 4 ∨ k = 3) (hK : K (.bl true)) : S__law_right [.pen, .int k] K E := by
  have go : ∀ a b : Int, -(10 ^ 10) < a → a < 10 ^ 10 → -(10 ^ 10) < b → b < 10 ^ 10 → u__law_right_1 E { nx := fun _ => K .non, rt := K } [.val .pen, .val (.int k), .val (PP a b), .un, .un, .un, .un, .un, .un, .un, .un, .un, .un, .un, .un] := by
    intro a b a0 a1 b0 b1
    have m1 := mul_bd a0 a1 a0 a1
    have m2 := mul_bd b0 b1 b0 b1
    have m3 := mul_bd a0 a1 b0 b1
    have hN : N2 k (a, b) ≤ 2 ^ 70 := by unfold N2 nrm; simp only []; split <;> omega
    simp only [u__law_right_1]
    simp
    rw [p__law_draw (by decide) (by decide)]
    intro r r0 r1
    simp
    refine ⟨by omega, by omega, ?_⟩
    have lp := lap_loop (E := E) (x0 := (a, b)) hk hN (N := { nx := u__law_right_2 E { nx := fun _ => K .non, rt := K }, rt := K }) (rangeD 0 r) 0 .un (by simp; omega) (fun s => by
      simp only [Nat.zero_add]
      generalize hx : mu k (a, b) (epw k (rangeD 0 r).length) = x
      have hb : N2 k x ≤ 2 ^ 100 := by
        rw [← hx, N_mu hk]
        have h1 := N_epw_le hk (rangeD 0 r).length
        have h2 : (4 : Nat) ^ (rangeD 0 r).length ≤ 4 ^ 3 := Nat.pow_le_pow_right (by decide) (by simp; omega)
        have e2 : ((4 ^ (rangeD 0 r).length : Nat) : Int) = (4 : Int) ^ (rangeD 0 r).length := by rw [Int.natCast_pow]; rfl
        have h3 := N_nn (x := (a, b)) hk
        have h4 : N2 k (a, b) * N2 k (epw k (rangeD 0 r).length) ≤ N2 k (a, b) * 64 := Int.mul_le_mul_of_nonneg_left (by omega) h3
        omega
      show u__law_right_2 E { nx := fun _ => K .non, rt := K } _
      simp only [u__law_right_2]
      simp
      rw [p__law_draw (by decide) (by decide)]
      intro r r0 r1
      simp only [k_eqI, w_Kb, decide_eq_true_eq]
      by_cases hr : r = 0
      · rw [if_pos hr]; exact r_4 hk hb (.inr rfl) hK
      · rw [if_neg hr]; exact r_4 hk hb (.inl rfl) hK)
    simpa [epw, mu_one hk] using lp
  simp [S__law_right, t__law_right]
  refine p__law_pick (by simp) (by simp) fun d hd => ?_
  simp only [List.mem_cons, List.not_mem_nil, or_false] at hd
  rcases hd with rfl | rfl | rfl | rfl
  · exact p__law_letters (F := 1) rfl (by decide) fun a b a0 a1 b0 b1 => go a b (by omega) (by omega) (by omega) (by omega)
  · exact p__law_letters (F := 1) rfl (by decide) fun a b a0 a1 b0 b1 => go a b (by omega) (by omega) (by omega) (by omega)
  · exact p__law_letters (F := 3) rfl (by decide) fun a b a0 a1 b0 b1 => go a b (by omega) (by omega) (by omega) (by omega)
  · exact p__law_letters (F := 10) rfl (by decide) fun a b a0 a1 b0 b1 => go a b (by omega) (by omega) (by omega) (by omega)
end
end
end DL

set_option Elab.async false
set_option linter.all false
set_option maxRecDepth 100000
set_option maxHeartbeats 4000000
namespace DL
open PySem PySem.Spec PyProof.Rows L2 LamX
section
variable {K : D → Prop} {E : Exc → Prop} {a b c d k : Int} {n m p q : Nat}
section
theorem p__law_refused (hK : K (.bl true)) : S__law_refused [.pen] K E := by
  simp [S__law_refused, t__law_refused]
  refine p__law_bad_kind fun kd hk => ?_
  refine p__law_bad_letters fun bd hb => ?_
  refine p__law_bad_letters fun wd hw => ?_
  obtain ⟨hk, sk, ek, ok⟩ := hk
  obtain ⟨hb, sb, eb, ob⟩ := hb
  obtain ⟨hw, sw, ew, ow⟩ := hw
  have l1 : Lt 0 := by unfold Lt; omega
  simp only [u__law_refused_1]
  simp [S__law_two, t__law_two, S__law_three, t__law_three, S_is_primary, t_is_primary, S_primary_of, t_primary_of, S_common_part, t_common_part, hk, ek]
  simp only [u__law_refused_2]
  simp [ek, ok, List.replicate]
  simp only [u__law_refused_3]
  simp [S__law_two, t__law_two, S__law_three, t__law_three, S_is_primary, t_is_primary, S_primary_of, t_primary_of, S_common_part, t_common_part, hb, eb, hw, ew, ob, ow, l1, List.replicate, hK]
theorem r_law : t_law (fun _ => False) { nx := fun _ => False, rt := fun d => d = .bl true } [.un, .val .pen, .un] := by
  have step : ∀ P : Prop, P → S__law_kind [.pen] (fun d => S__law_right [.pen, d] (Kt fun b => b = true ∧ S__law_refused [.pen] (Kt fun b => b = true ∧ P) fun _ => False) fun _ => False) fun _ => False := by
    intro P hP
    have h : ∀ k, (k = 4 ∨ k = 3) → S__law_right [.pen, .int k] (Kt fun b => b = true ∧ S__law_refused [.pen] (Kt fun b => b = true ∧ P) fun _ => False) fun _ => False := fun k hk =>
      p__law_right hk (by simpa using p__law_refused (by simpa using hP))
    exact p__law_kind (h 4 (.inl rfl)) (h 3 (.inr rfl))
  simp [t_law]
  refine step _ (step _ (step _ ?_))
  simpa using step True trivial
end
end
end DL

set_option Elab.async false
set_option linter.all false
set_option maxRecDepth 100000
set_option maxHeartbeats 0
namespace DL
open PySem PySem.Spec PyProof.Rows L2 LamX

theorem sc_is_integer : FnScope ["value"] ["value"] (defScope st_is_integer) := ⟨rfl, rfl, rfl, by decide +kernel, rfl, by decide +kernel, by decide +kernel⟩
theorem sc_is_list : FnScope ["value"] ["value"] (defScope st_is_list) := ⟨rfl, rfl, rfl, by decide +kernel, rfl, by decide +kernel, by decide +kernel⟩
theorem sc_need_kind : FnScope ["kind"] ["kind"] (defScope st_need_kind) := ⟨rfl, rfl, rfl, by decide +kernel, rfl, by decide +kernel, by decide +kernel⟩
theorem sc_is_letters : FnScope ["value", "one"] ["value"] (defScope st_is_letters) := ⟨rfl, rfl, rfl, by decide +kernel, rfl, by decide +kernel, by decide +kernel⟩
theorem sc_need_letters : FnScope ["value", "what", "told"] ["value", "what"] (defScope st_need_letters) := ⟨rfl, rfl, rfl, by decide +kernel, rfl, by decide +kernel, by decide +kernel⟩
theorem sc_norm_by : FnScope ["kind", "number", "a", "b"] ["kind", "number"] (defScope st_norm_by) := ⟨rfl, rfl, rfl, by decide +kernel, rfl, by decide +kernel, by decide +kernel⟩
theorem sc_other_by : FnScope ["kind", "number", "a", "b"] ["kind", "number"] (defScope st_other_by) := ⟨rfl, rfl, rfl, by decide +kernel, rfl, by decide +kernel, by decide +kernel⟩
theorem sc_product_by : FnScope ["kind", "one", "other", "a", "b", "c", "d"] ["kind", "one", "other"] (defScope st_product_by) := ⟨rfl, rfl, rfl, by decide +kernel, rfl, by decide +kernel, by decide +kernel⟩
theorem sc_less_by : FnScope ["one", "other"] ["one", "other"] (defScope st_less_by) := ⟨rfl, rfl, rfl, by decide +kernel, rfl, by decide +kernel, by decide +kernel⟩
theorem sc_quotient_by : FnScope ["kind", "one", "other", "top", "norm"] ["kind", "one", "other"] (defScope st_quotient_by) := ⟨rfl, rfl, rfl, by decide +kernel, rfl, by decide +kernel, by decide +kernel⟩
theorem sc_rest_by : FnScope ["kind", "one", "other"] ["kind", "one", "other"] (defScope st_rest_by) := ⟨rfl, rfl, rfl, by decide +kernel, rfl, by decide +kernel, by decide +kernel⟩
theorem sc_goes_by : FnScope ["kind", "one", "other"] ["kind", "one", "other"] (defScope st_goes_by) := ⟨rfl, rfl, rfl, by decide +kernel, rfl, by decide +kernel, by decide +kernel⟩
theorem sc_units_by : FnScope ["kind", "found", "lap"] ["kind"] (defScope st_units_by) := ⟨rfl, rfl, rfl, by decide +kernel, rfl, by decide +kernel, by decide +kernel⟩
theorem sc_power_by : FnScope ["kind", "number", "k", "found", "lap"] ["kind", "number", "k"] (defScope st_power_by) := ⟨rfl, rfl, rfl, by decide +kernel, rfl, by decide +kernel, by decide +kernel⟩
theorem sc_even_by : FnScope ["kind"] ["kind"] (defScope st_even_by) := ⟨rfl, rfl, rfl, by decide +kernel, rfl, by decide +kernel, by decide +kernel⟩
theorem sc_is_primary_by : FnScope ["kind", "number", "a", "b"] ["kind", "number"] (defScope st_is_primary_by) := ⟨rfl, rfl, rfl, by decide +kernel, rfl, by decide +kernel, by decide +kernel⟩
theorem sc_parted_by : FnScope ["kind", "number", "even", "count", "units", "j", "left"] ["kind", "number"] (defScope st_parted_by) := ⟨rfl, rfl, rfl, by decide +kernel, rfl, by decide +kernel, by decide +kernel⟩
theorem sc_common_by : FnScope ["kind", "one", "other", "count", "j", "left"] ["kind", "one", "other"] (defScope st_common_by) := ⟨rfl, rfl, rfl, by decide +kernel, rfl, by decide +kernel, by decide +kernel⟩
theorem sc_is_primary : FnScope ["kind", "number"] ["kind", "number"] (defScope st_is_primary) := ⟨rfl, rfl, rfl, by decide +kernel, rfl, by decide +kernel, by decide +kernel⟩
theorem sc_primary_of : FnScope ["kind", "number", "told"] ["kind", "number"] (defScope st_primary_of) := ⟨rfl, rfl, rfl, by decide +kernel, rfl, by decide +kernel, by decide +kernel⟩
theorem sc_common_part : FnScope ["kind", "one", "other", "first"] ["kind", "one", "other"] (defScope st_common_part) := ⟨rfl, rfl, rfl, by decide +kernel, rfl, by decide +kernel, by decide +kernel⟩
theorem sc__law_pen : FnScope ["script", "fold", "cell"] ["script"] (defScope st__law_pen) := ⟨rfl, rfl, rfl, by decide +kernel, rfl, by decide +kernel, by decide +kernel⟩
theorem sc__law_draw : FnScope ["pen", "many", "cell", "digit", "blend"] ["pen", "many"] (defScope st__law_draw) := ⟨rfl, rfl, rfl, by decide +kernel, rfl, by decide +kernel, by decide +kernel⟩
theorem sc__law_pick : FnScope ["pen", "some"] ["pen", "some"] (defScope st__law_pick) := ⟨rfl, rfl, rfl, by decide +kernel, rfl, by decide +kernel, by decide +kernel⟩
theorem sc__law_is : FnScope ["told", "due", "at"] ["told", "due"] (defScope st__law_is) := ⟨rfl, rfl, rfl, by decide +kernel, rfl, by decide +kernel, by decide +kernel⟩
theorem sc__law_says : FnScope ["told", "due"] ["told", "due"] (defScope st__law_says) := ⟨rfl, rfl, rfl, by decide +kernel, rfl, by decide +kernel, by decide +kernel⟩
theorem sc__law_is_whole : FnScope ["value"] ["value"] (defScope st__law_is_whole) := ⟨rfl, rfl, rfl, by decide +kernel, rfl, by decide +kernel, by decide +kernel⟩
theorem sc__law_wide : FnScope ["pen", "figures", "found", "top", "lap"] ["pen", "figures"] (defScope st__law_wide) := ⟨rfl, rfl, rfl, by decide +kernel, rfl, by decide +kernel, by decide +kernel⟩
theorem sc__law_fault : FnScope ["call", "found", "e"] ["call"] (defScope st__law_fault) := ⟨rfl, rfl, rfl, by decide +kernel, rfl, by decide +kernel, by decide +kernel⟩
theorem sc__law_kinds : FnScope ["e", "found"] ["e"] (defScope st__law_kinds) := ⟨rfl, rfl, rfl, by decide +kernel, rfl, by decide +kernel, by decide +kernel⟩
theorem sc__law_more_kinds : FnScope ["e", "found"] ["e"] (defScope st__law_more_kinds) := ⟨rfl, rfl, rfl, by decide +kernel, rfl, by decide +kernel, by decide +kernel⟩
theorem sc__law_signed : FnScope ["pen", "figures"] ["pen", "figures"] (defScope st__law_signed) := ⟨rfl, rfl, rfl, by decide +kernel, rfl, by decide +kernel, by decide +kernel⟩
theorem sc__law_kind : FnScope ["pen"] ["pen"] (defScope st__law_kind) := ⟨rfl, rfl, rfl, by decide +kernel, rfl, by decide +kernel, by decide +kernel⟩
theorem sc__law_norm : FnScope ["kind", "x", "a", "b"] ["kind", "x"] (defScope st__law_norm) := ⟨rfl, rfl, rfl, by decide +kernel, rfl, by decide +kernel, by decide +kernel⟩
theorem sc__law_other : FnScope ["kind", "x"] ["kind", "x"] (defScope st__law_other) := ⟨rfl, rfl, rfl, by decide +kernel, rfl, by decide +kernel, by decide +kernel⟩
theorem sc__law_product : FnScope ["kind", "x", "y", "one", "two", "three"] ["kind", "x", "y"] (defScope st__law_product) := ⟨rfl, rfl, rfl, by decide +kernel, rfl, by decide +kernel, by decide +kernel⟩
theorem sc__law_less : FnScope ["x", "y"] ["x", "y"] (defScope st__law_less) := ⟨rfl, rfl, rfl, by decide +kernel, rfl, by decide +kernel, by decide +kernel⟩
theorem sc__law_goes : FnScope ["kind", "y", "x", "top", "norm"] ["kind", "y", "x"] (defScope st__law_goes) := ⟨rfl, rfl, rfl, by decide +kernel, rfl, by decide +kernel, by decide +kernel⟩
theorem sc__law_over : FnScope ["kind", "x", "y", "top", "norm"] ["kind", "x", "y"] (defScope st__law_over) := ⟨rfl, rfl, rfl, by decide +kernel, rfl, by decide +kernel, by decide +kernel⟩
theorem sc__law_units : FnScope ["kind"] ["kind"] (defScope st__law_units) := ⟨rfl, rfl, rfl, by decide +kernel, rfl, by decide +kernel, by decide +kernel⟩
theorem sc__law_even : FnScope ["kind"] ["kind"] (defScope st__law_even) := ⟨rfl, rfl, rfl, by decide +kernel, rfl, by decide +kernel, by decide +kernel⟩
theorem sc__law_is_primary : FnScope ["kind", "x"] ["kind", "x"] (defScope st__law_is_primary) := ⟨rfl, rfl, rfl, by decide +kernel, rfl, by decide +kernel, by decide +kernel⟩
theorem sc__law_primary_one : FnScope ["kind", "x", "some", "unit", "one"] ["kind", "x"] (defScope st__law_primary_one) := ⟨rfl, rfl, rfl, by decide +kernel, rfl, by decide +kernel, by decide +kernel⟩
theorem sc__law_letters : FnScope ["pen", "figures"] ["pen", "figures"] (defScope st__law_letters) := ⟨rfl, rfl, rfl, by decide +kernel, rfl, by decide +kernel, by decide +kernel⟩
theorem sc__law_some_letters : FnScope ["pen", "found"] ["pen"] (defScope st__law_some_letters) := ⟨rfl, rfl, rfl, by decide +kernel, rfl, by decide +kernel, by decide +kernel⟩
theorem sc__law_primary : FnScope ["pen", "kind", "figures", "a", "b"] ["pen", "kind", "figures"] (defScope st__law_primary) := ⟨rfl, rfl, rfl, by decide +kernel, rfl, by decide +kernel, by decide +kernel⟩
theorem sc__law_bad_letters : FnScope ["pen"] ["pen"] (defScope st__law_bad_letters) := ⟨rfl, rfl, rfl, by decide +kernel, rfl, by decide +kernel, by decide +kernel⟩
theorem sc__law_bad_kind : FnScope ["pen"] ["pen"] (defScope st__law_bad_kind) := ⟨rfl, rfl, rfl, by decide +kernel, rfl, by decide +kernel, by decide +kernel⟩
theorem sc__law_right : FnScope ["pen", "kind", "x", "lap", "handed", "told", "even", "unit", "primary", "left", "count", "one", "other", "some", "number"] ["pen", "kind"] (defScope st__law_right) := ⟨rfl, rfl, rfl, by decide +kernel, rfl, by decide +kernel, by decide +kernel⟩
theorem sc__law_common_right : FnScope ["pen", "kind", "part", "one", "other", "x", "y", "told", "left", "first", "second", "lap"] ["pen", "kind"] (defScope st__law_common_right) := ⟨rfl, rfl, rfl, by decide +kernel, rfl, by decide +kernel, by decide +kernel⟩
theorem sc__law_even_power : FnScope ["kind", "told", "left", "here", "lap"] ["kind", "told", "left"] (defScope st__law_even_power) := ⟨rfl, rfl, rfl, by decide +kernel, rfl, by decide +kernel, by decide +kernel⟩
theorem sc__law_rest : FnScope ["kind", "x", "y", "top", "norm", "quotient"] ["kind", "x", "y"] (defScope st__law_rest) := ⟨rfl, rfl, rfl, by decide +kernel, rfl, by decide +kernel, by decide +kernel⟩
theorem sc__law_refused : FnScope ["pen", "kind", "bad", "worse", "told"] ["pen"] (defScope st__law_refused) := ⟨rfl, rfl, rfl, by decide +kernel, rfl, by decide +kernel, by decide +kernel⟩
theorem sc__law_two : FnScope ["call", "one", "other"] ["call", "one", "other"] (defScope st__law_two) := ⟨rfl, rfl, rfl, by decide +kernel, rfl, by decide +kernel, by decide +kernel⟩
theorem sc__law_three : FnScope ["one", "other", "third"] ["one", "other", "third"] (defScope st__law_three) := ⟨rfl, rfl, rfl, by decide +kernel, rfl, by decide +kernel, by decide +kernel⟩
theorem sc_law : FnScope ["script", "pen", "lap"] ["script"] (defScope st_law) := ⟨rfl, rfl, rfl, by decide +kernel, rfl, by decide +kernel, by decide +kernel⟩
structure Fx (P : Program) (w : World) (K : PySem.W.Frag) (mg : Str → Option Value) (base : Heap) (T : List (Addr × Str)) : Prop where
  lm__law_three : ∃ f fd c P, mg "_law_three" = some (.ref f) ∧ Fun K "_law_three" "_law_three" st__law_three f fd ∧ fd.code = .ref c ∧ TabB base mg c P ∧ (P, ("_law_three" ++ ".<locals>." ++ "<lambda>" : Str)) ∈ T ∧ ∀ p ∈ T, p.1 = P → p.2 = ("_law_three" ++ ".<locals>." ++ "<lambda>" : Str)
  lm__law_two : ∃ f fd c P, mg "_law_two" = some (.ref f) ∧ Fun K "_law_two" "_law_two" st__law_two f fd ∧ fd.code = .ref c ∧ TabB base mg c P ∧ (P, ("_law_two" ++ ".<locals>." ++ "<lambda>" : Str)) ∈ T ∧ ∀ p ∈ T, p.1 = P → p.2 = ("_law_two" ++ ".<locals>." ++ "<lambda>" : Str)
  fn_is_integer : ∃ f fd, mg "is_integer" = some (.ref f) ∧ Fun K "is_integer" "is_integer" st_is_integer f fd
  fn_is_list : ∃ f fd, mg "is_list" = some (.ref f) ∧ Fun K "is_list" "is_list" st_is_list f fd
  fn_need_kind : ∃ f fd, mg "need_kind" = some (.ref f) ∧ Fun K "need_kind" "need_kind" st_need_kind f fd
  fn_is_letters : ∃ f fd, mg "is_letters" = some (.ref f) ∧ Fun K "is_letters" "is_letters" st_is_letters f fd
  fn_need_letters : ∃ f fd, mg "need_letters" = some (.ref f) ∧ Fun K "need_letters" "need_letters" st_need_letters f fd
  fn_norm_by : ∃ f fd, mg "norm_by" = some (.ref f) ∧ Fun K "norm_by" "norm_by" st_norm_by f fd
  fn_other_by : ∃ f fd, mg "other_by" = some (.ref f) ∧ Fun K "other_by" "other_by" st_other_by f fd
  fn_product_by : ∃ f fd, mg "product_by" = some (.ref f) ∧ Fun K "product_by" "product_by" st_product_by f fd
  fn_less_by : ∃ f fd, mg "less_by" = some (.ref f) ∧ Fun K "less_by" "less_by" st_less_by f fd
  fn_quotient_by : ∃ f fd, mg "quotient_by" = some (.ref f) ∧ Fun K "quotient_by" "quotient_by" st_quotient_by f fd
  fn_rest_by : ∃ f fd, mg "rest_by" = some (.ref f) ∧ Fun K "rest_by" "rest_by" st_rest_by f fd
  fn_goes_by : ∃ f fd, mg "goes_by" = some (.ref f) ∧ Fun K "goes_by" "goes_by" st_goes_by f fd
  fn_units_by : ∃ f fd, mg "units_by" = some (.ref f) ∧ Fun K "units_by" "units_by" st_units_by f fd
  fn_power_by : ∃ f fd, mg "power_by" = some (.ref f) ∧ Fun K "power_by" "power_by" st_power_by f fd
  fn_even_by : ∃ f fd, mg "even_by" = some (.ref f) ∧ Fun K "even_by" "even_by" st_even_by f fd
  fn_is_primary_by : ∃ f fd, mg "is_primary_by" = some (.ref f) ∧ Fun K "is_primary_by" "is_primary_by" st_is_primary_by f fd
  fn_parted_by : ∃ f fd, mg "parted_by" = some (.ref f) ∧ Fun K "parted_by" "parted_by" st_parted_by f fd
  fn_common_by : ∃ f fd, mg "common_by" = some (.ref f) ∧ Fun K "common_by" "common_by" st_common_by f fd
  fn_is_primary : ∃ f fd, mg "is_primary" = some (.ref f) ∧ Fun K "is_primary" "is_primary" st_is_primary f fd
  fn_primary_of : ∃ f fd, mg "primary_of" = some (.ref f) ∧ Fun K "primary_of" "primary_of" st_primary_of f fd
  fn_common_part : ∃ f fd, mg "common_part" = some (.ref f) ∧ Fun K "common_part" "common_part" st_common_part f fd
  fn__law_pen : ∃ f fd, mg "_law_pen" = some (.ref f) ∧ Fun K "_law_pen" "_law_pen" st__law_pen f fd
  fn__law_draw : ∃ f fd, mg "_law_draw" = some (.ref f) ∧ Fun K "_law_draw" "_law_draw" st__law_draw f fd
  fn__law_pick : ∃ f fd, mg "_law_pick" = some (.ref f) ∧ Fun K "_law_pick" "_law_pick" st__law_pick f fd
  fn__law_is : ∃ f fd, mg "_law_is" = some (.ref f) ∧ Fun K "_law_is" "_law_is" st__law_is f fd
  fn__law_says : ∃ f fd, mg "_law_says" = some (.ref f) ∧ Fun K "_law_says" "_law_says" st__law_says f fd
  fn__law_is_whole : ∃ f fd, mg "_law_is_whole" = some (.ref f) ∧ Fun K "_law_is_whole" "_law_is_whole" st__law_is_whole f fd
  fn__law_wide : ∃ f fd, mg "_law_wide" = some (.ref f) ∧ Fun K "_law_wide" "_law_wide" st__law_wide f fd
  fn__law_fault : ∃ f fd, mg "_law_fault" = some (.ref f) ∧ Fun K "_law_fault" "_law_fault" st__law_fault f fd
  fn__law_kinds : ∃ f fd, mg "_law_kinds" = some (.ref f) ∧ Fun K "_law_kinds" "_law_kinds" st__law_kinds f fd
  fn__law_more_kinds : ∃ f fd, mg "_law_more_kinds" = some (.ref f) ∧ Fun K "_law_more_kinds" "_law_more_kinds" st__law_more_kinds f fd
  fn__law_signed : ∃ f fd, mg "_law_signed" = some (.ref f) ∧ Fun K "_law_signed" "_law_signed" st__law_signed f fd
  fn__law_kind : ∃ f fd, mg "_law_kind" = some (.ref f) ∧ Fun K "_law_kind" "_law_kind" st__law_kind f fd
  fn__law_norm : ∃ f fd, mg "_law_norm" = some (.ref f) ∧ Fun K "_law_norm" "_law_norm" st__law_norm f fd
  fn__law_other : ∃ f fd, mg "_law_other" = some (.ref f) ∧ Fun K "_law_other" "_law_other" st__law_other f fd
  fn__law_product : ∃ f fd, mg "_law_product" = some (.ref f) ∧ Fun K "_law_product" "_law_product" st__law_product f fd
  fn__law_less : ∃ f fd, mg "_law_less" = some (.ref f) ∧ Fun K "_law_less" "_law_less" st__law_less f fd
  fn__law_goes : ∃ f fd, mg "_law_goes" = some (.ref f) ∧ Fun K "_law_goes" "_law_goes" st__law_goes f fd
  fn__law_over : ∃ f fd, mg "_law_over" = some (.ref f) ∧ Fun K "_law_over" "_law_over" st__law_over f fd
  fn__law_units : ∃ f fd, mg "_law_units" = some (.ref f) ∧ Fun K "_law_units" "_law_units" st__law_units f fd
  fn__law_even : ∃ f fd, mg "_law_even" = some (.ref f) ∧ Fun K "_law_even" "_law_even" st__law_even f fd
  fn__law_is_primary : ∃ f fd, mg "_law_is_primary" = some (.ref f) ∧ Fun K "_law_is_primary" "_law_is_primary" st__law_is_primary f fd
  fn__law_primary_one : ∃ f fd, mg "_law_primary_one" = some (.ref f) ∧ Fun K "_law_primary_one" "_law_primary_one" st__law_primary_one f fd
  fn__law_letters : ∃ f fd, mg "_law_letters" = some (.ref f) ∧ Fun K "_law_letters" "_law_letters" st__law_letters f fd
  fn__law_some_letters : ∃ f fd, mg "_law_some_letters" = some (.ref f) ∧ Fun K "_law_some_letters" "_law_some_letters" st__law_some_letters f fd
  fn__law_primary : ∃ f fd, mg "_law_primary" = some (.ref f) ∧ Fun K "_law_primary" "_law_primary" st__law_primary f fd
  fn__law_bad_letters : ∃ f fd, mg "_law_bad_letters" = some (.ref f) ∧ Fun K "_law_bad_letters" "_law_bad_letters" st__law_bad_letters f fd
  fn__law_bad_kind : ∃ f fd, mg "_law_bad_kind" = some (.ref f) ∧ Fun K "_law_bad_kind" "_law_bad_kind" st__law_bad_kind f fd
  fn__law_right : ∃ f fd, mg "_law_right" = some (.ref f) ∧ Fun K "_law_right" "_law_right" st__law_right f fd
  fn__law_common_right : ∃ f fd, mg "_law_common_right" = some (.ref f) ∧ Fun K "_law_common_right" "_law_common_right" st__law_common_right f fd
  fn__law_even_power : ∃ f fd, mg "_law_even_power" = some (.ref f) ∧ Fun K "_law_even_power" "_law_even_power" st__law_even_power f fd
  fn__law_rest : ∃ f fd, mg "_law_rest" = some (.ref f) ∧ Fun K "_law_rest" "_law_rest" st__law_rest f fd
  fn__law_refused : ∃ f fd, mg "_law_refused" = some (.ref f) ∧ Fun K "_law_refused" "_law_refused" st__law_refused f fd
  fn__law_two : ∃ f fd, mg "_law_two" = some (.ref f) ∧ Fun K "_law_two" "_law_two" st__law_two f fd
  fn__law_three : ∃ f fd, mg "_law_three" = some (.ref f) ∧ Fun K "_law_three" "_law_three" st__law_three f fd
  fn_law : ∃ f fd, mg "law" = some (.ref f) ∧ Fun K "law" "law" st_law f fd
  fr_ValueError : mg "ValueError" = none
  fr_abs : mg "abs" = none
  fr_all : mg "all" = none
  fr_bool : mg "bool" = none
  fr_int : mg "int" = none
  fr_isinstance : mg "isinstance" = none
  fr_len : mg "len" = none
  fr_list : mg "list" = none
  fr_range : mg "range" = none
  fr_repr : mg "repr" = none
  fr_str : mg "str" = none
  fr_tuple : mg "tuple" = none
  i_MOST_LETTER : ∃ u, mg "MOST_LETTER" = some (.int 1000000000000000000000000000000 u)
  xc_BadNumber : XCls P w K mg base "BadNumber" ["what", "number"]
  xc_BadRow : XCls P w K mg base "BadRow" ["what", "row"]
  xc_Unlike : XCls P w K mg base "Unlike" ["what"]
  xa : XAll K mg
  cl : ∀ n ∈ XN, ∃ C : Addr, mg n = some (.ref C)
section
variable {P : Program} {w : World} {K : PySem.W.Frag} {mg : Str → Option Value} {base : Heap} {T : List (Addr × Str)}
theorem qual_eq (x : Str) : True := True.intro
theorem sci_BadNumber : FnScope ["self", "what", "number"] ["self", "what", "number"] (defScope in_BadNumber) := ⟨rfl, rfl, rfl, by decide +kernel, rfl, by decide +kernel, by decide +kernel⟩
theorem xi_BadNumber {C fI : Addr} {fd : FuncData} (hm : mg "BadNumber" = some (.ref C)) (T : OexC K C) (iC : PySem.W.findIn K (.ref C) "__init__" = some (some (.ref fI))) (tI : PySem.W.typeIn K (.ref fI) = some (.type "function")) (F : Fun K "__init__" "BadNumber.__init__" in_BadNumber fI fd) (n1 : PySem.W.findIn K (.ref C) "what" = some none) (n2 : PySem.W.findIn K (.ref C) "number" = some none) : XCls P w K mg base "BadNumber" ["what", "number"] :=
  xcls2 hm T iC tI F sci_BadNumber (fun_binds F fun _ _ _ _ _ _ us hl => match us, hl with | [_, _, _], _ => rfl) n1 n2 (by decide +kernel) fun cdv A outer s H E => (pss_cons (ps_ost (pe_var (i := 0) rfl (by first | exact Or.inl rfl | exact Or.inr (Or.inl rfl) | exact Or.inr (Or.inr rfl))) (pe_var (i := 1) rfl (by first | exact Or.inl rfl | exact Or.inr (Or.inl rfl) | exact Or.inr (Or.inr rfl)))) (pss_cons (ps_ost (pe_var (i := 0) rfl (by first | exact Or.inl rfl | exact Or.inr (Or.inl rfl) | exact Or.inr (Or.inr rfl))) (pe_var (i := 2) rfl (by first | exact Or.inl rfl | exact Or.inr (Or.inl rfl) | exact Or.inr (Or.inr rfl)))) pss_nil))
theorem sci_BadRow : FnScope ["self", "what", "row"] ["self", "what", "row"] (defScope in_BadRow) := ⟨rfl, rfl, rfl, by decide +kernel, rfl, by decide +kernel, by decide +kernel⟩
theorem xi_BadRow {C fI : Addr} {fd : FuncData} (hm : mg "BadRow" = some (.ref C)) (T : OexC K C) (iC : PySem.W.findIn K (.ref C) "__init__" = some (some (.ref fI))) (tI : PySem.W.typeIn K (.ref fI) = some (.type "function")) (F : Fun K "__init__" "BadRow.__init__" in_BadRow fI fd) (n1 : PySem.W.findIn K (.ref C) "what" = some none) (n2 : PySem.W.findIn K (.ref C) "row" = some none) : XCls P w K mg base "BadRow" ["what", "row"] :=
  xcls2 hm T iC tI F sci_BadRow (fun_binds F fun _ _ _ _ _ _ us hl => match us, hl with | [_, _, _], _ => rfl) n1 n2 (by decide +kernel) fun cdv A outer s H E => (pss_cons (ps_ost (pe_var (i := 0) rfl (by first | exact Or.inl rfl | exact Or.inr (Or.inl rfl) | exact Or.inr (Or.inr rfl))) (pe_var (i := 1) rfl (by first | exact Or.inl rfl | exact Or.inr (Or.inl rfl) | exact Or.inr (Or.inr rfl)))) (pss_cons (ps_ost (pe_var (i := 0) rfl (by first | exact Or.inl rfl | exact Or.inr (Or.inl rfl) | exact Or.inr (Or.inr rfl))) (pe_var (i := 2) rfl (by first | exact Or.inl rfl | exact Or.inr (Or.inl rfl) | exact Or.inr (Or.inr rfl)))) pss_nil))
theorem sci_BadTable : FnScope ["self", "what"] ["self", "what"] (defScope in_BadTable) := ⟨rfl, rfl, rfl, by decide +kernel, rfl, by decide +kernel, by decide +kernel⟩
theorem xi_BadTable {C fI : Addr} {fd : FuncData} (hm : mg "BadTable" = some (.ref C)) (T : OexC K C) (iC : PySem.W.findIn K (.ref C) "__init__" = some (some (.ref fI))) (tI : PySem.W.typeIn K (.ref fI) = some (.type "function")) (F : Fun K "__init__" "BadTable.__init__" in_BadTable fI fd) (n1 : PySem.W.findIn K (.ref C) "what" = some none) : XCls P w K mg base "BadTable" ["what"] :=
  xcls1 hm T iC tI F sci_BadTable (fun_binds F fun _ _ _ _ _ _ us hl => match us, hl with | [_, _], _ => rfl) n1  fun cdv A outer s H E => (pss_cons (ps_ost (pe_var (i := 0) rfl (by first | exact Or.inl rfl | exact Or.inr (Or.inl rfl) | exact Or.inr (Or.inr rfl))) (pe_var (i := 1) rfl (by first | exact Or.inl rfl | exact Or.inr (Or.inl rfl) | exact Or.inr (Or.inr rfl)))) pss_nil)
theorem sci_BadBook : FnScope ["self", "what"] ["self", "what"] (defScope in_BadBook) := ⟨rfl, rfl, rfl, by decide +kernel, rfl, by decide +kernel, by decide +kernel⟩
theorem xi_BadBook {C fI : Addr} {fd : FuncData} (hm : mg "BadBook" = some (.ref C)) (T : OexC K C) (iC : PySem.W.findIn K (.ref C) "__init__" = some (some (.ref fI))) (tI : PySem.W.typeIn K (.ref fI) = some (.type "function")) (F : Fun K "__init__" "BadBook.__init__" in_BadBook fI fd) (n1 : PySem.W.findIn K (.ref C) "what" = some none) : XCls P w K mg base "BadBook" ["what"] :=
  xcls1 hm T iC tI F sci_BadBook (fun_binds F fun _ _ _ _ _ _ us hl => match us, hl with | [_, _], _ => rfl) n1  fun cdv A outer s H E => (pss_cons (ps_ost (pe_var (i := 0) rfl (by first | exact Or.inl rfl | exact Or.inr (Or.inl rfl) | exact Or.inr (Or.inr rfl))) (pe_var (i := 1) rfl (by first | exact Or.inl rfl | exact Or.inr (Or.inl rfl) | exact Or.inr (Or.inr rfl)))) pss_nil)
theorem sci_BadName : FnScope ["self", "name"] ["self", "name"] (defScope in_BadName) := ⟨rfl, rfl, rfl, by decide +kernel, rfl, by decide +kernel, by decide +kernel⟩
theorem xi_BadName {C fI : Addr} {fd : FuncData} (hm : mg "BadName" = some (.ref C)) (T : OexC K C) (iC : PySem.W.findIn K (.ref C) "__init__" = some (some (.ref fI))) (tI : PySem.W.typeIn K (.ref fI) = some (.type "function")) (F : Fun K "__init__" "BadName.__init__" in_BadName fI fd) (n1 : PySem.W.findIn K (.ref C) "name" = some none) : XCls P w K mg base "BadName" ["name"] :=
  xcls1 hm T iC tI F sci_BadName (fun_binds F fun _ _ _ _ _ _ us hl => match us, hl with | [_, _], _ => rfl) n1  fun cdv A outer s H E => (pss_cons (ps_ost (pe_var (i := 0) rfl (by first | exact Or.inl rfl | exact Or.inr (Or.inl rfl) | exact Or.inr (Or.inr rfl))) (pe_var (i := 1) rfl (by first | exact Or.inl rfl | exact Or.inr (Or.inl rfl) | exact Or.inr (Or.inr rfl)))) pss_nil)
theorem sci_BadText : FnScope ["self", "line", "word"] ["self", "line", "word"] (defScope in_BadText) := ⟨rfl, rfl, rfl, by decide +kernel, rfl, by decide +kernel, by decide +kernel⟩
theorem xi_BadText {C fI : Addr} {fd : FuncData} (hm : mg "BadText" = some (.ref C)) (T : OexC K C) (iC : PySem.W.findIn K (.ref C) "__init__" = some (some (.ref fI))) (tI : PySem.W.typeIn K (.ref fI) = some (.type "function")) (F : Fun K "__init__" "BadText.__init__" in_BadText fI fd) (n1 : PySem.W.findIn K (.ref C) "line" = some none) (n2 : PySem.W.findIn K (.ref C) "word" = some none) : XCls P w K mg base "BadText" ["line", "word"] :=
  xcls2 hm T iC tI F sci_BadText (fun_binds F fun _ _ _ _ _ _ us hl => match us, hl with | [_, _, _], _ => rfl) n1 n2 (by decide +kernel) fun cdv A outer s H E => (pss_cons (ps_ost (pe_var (i := 0) rfl (by first | exact Or.inl rfl | exact Or.inr (Or.inl rfl) | exact Or.inr (Or.inr rfl))) (pe_var (i := 1) rfl (by first | exact Or.inl rfl | exact Or.inr (Or.inl rfl) | exact Or.inr (Or.inr rfl)))) (pss_cons (ps_ost (pe_var (i := 0) rfl (by first | exact Or.inl rfl | exact Or.inr (Or.inl rfl) | exact Or.inr (Or.inr rfl))) (pe_var (i := 2) rfl (by first | exact Or.inl rfl | exact Or.inr (Or.inl rfl) | exact Or.inr (Or.inr rfl)))) pss_nil))
theorem sci_NoPlace : FnScope ["self", "what", "index"] ["self", "what", "index"] (defScope in_NoPlace) := ⟨rfl, rfl, rfl, by decide +kernel, rfl, by decide +kernel, by decide +kernel⟩
theorem xi_NoPlace {C fI : Addr} {fd : FuncData} (hm : mg "NoPlace" = some (.ref C)) (T : OexC K C) (iC : PySem.W.findIn K (.ref C) "__init__" = some (some (.ref fI))) (tI : PySem.W.typeIn K (.ref fI) = some (.type "function")) (F : Fun K "__init__" "NoPlace.__init__" in_NoPlace fI fd) (n1 : PySem.W.findIn K (.ref C) "what" = some none) (n2 : PySem.W.findIn K (.ref C) "index" = some none) : XCls P w K mg base "NoPlace" ["what", "index"] :=
  xcls2 hm T iC tI F sci_NoPlace (fun_binds F fun _ _ _ _ _ _ us hl => match us, hl with | [_, _, _], _ => rfl) n1 n2 (by decide +kernel) fun cdv A outer s H E => (pss_cons (ps_ost (pe_var (i := 0) rfl (by first | exact Or.inl rfl | exact Or.inr (Or.inl rfl) | exact Or.inr (Or.inr rfl))) (pe_var (i := 1) rfl (by first | exact Or.inl rfl | exact Or.inr (Or.inl rfl) | exact Or.inr (Or.inr rfl)))) (pss_cons (ps_ost (pe_var (i := 0) rfl (by first | exact Or.inl rfl | exact Or.inr (Or.inl rfl) | exact Or.inr (Or.inr rfl))) (pe_var (i := 2) rfl (by first | exact Or.inl rfl | exact Or.inr (Or.inl rfl) | exact Or.inr (Or.inr rfl)))) pss_nil))
theorem sci_NoName : FnScope ["self", "name"] ["self", "name"] (defScope in_NoName) := ⟨rfl, rfl, rfl, by decide +kernel, rfl, by decide +kernel, by decide +kernel⟩
theorem xi_NoName {C fI : Addr} {fd : FuncData} (hm : mg "NoName" = some (.ref C)) (T : OexC K C) (iC : PySem.W.findIn K (.ref C) "__init__" = some (some (.ref fI))) (tI : PySem.W.typeIn K (.ref fI) = some (.type "function")) (F : Fun K "__init__" "NoName.__init__" in_NoName fI fd) (n1 : PySem.W.findIn K (.ref C) "name" = some none) : XCls P w K mg base "NoName" ["name"] :=
  xcls1 hm T iC tI F sci_NoName (fun_binds F fun _ _ _ _ _ _ us hl => match us, hl with | [_, _], _ => rfl) n1  fun cdv A outer s H E => (pss_cons (ps_ost (pe_var (i := 0) rfl (by first | exact Or.inl rfl | exact Or.inr (Or.inl rfl) | exact Or.inr (Or.inr rfl))) (pe_var (i := 1) rfl (by first | exact Or.inl rfl | exact Or.inr (Or.inl rfl) | exact Or.inr (Or.inr rfl)))) pss_nil)
theorem sci_TakenName : FnScope ["self", "name"] ["self", "name"] (defScope in_TakenName) := ⟨rfl, rfl, rfl, by decide +kernel, rfl, by decide +kernel, by decide +kernel⟩
theorem xi_TakenName {C fI : Addr} {fd : FuncData} (hm : mg "TakenName" = some (.ref C)) (T : OexC K C) (iC : PySem.W.findIn K (.ref C) "__init__" = some (some (.ref fI))) (tI : PySem.W.typeIn K (.ref fI) = some (.type "function")) (F : Fun K "__init__" "TakenName.__init__" in_TakenName fI fd) (n1 : PySem.W.findIn K (.ref C) "name" = some none) : XCls P w K mg base "TakenName" ["name"] :=
  xcls1 hm T iC tI F sci_TakenName (fun_binds F fun _ _ _ _ _ _ us hl => match us, hl with | [_, _], _ => rfl) n1  fun cdv A outer s H E => (pss_cons (ps_ost (pe_var (i := 0) rfl (by first | exact Or.inl rfl | exact Or.inr (Or.inl rfl) | exact Or.inr (Or.inr rfl))) (pe_var (i := 1) rfl (by first | exact Or.inl rfl | exact Or.inr (Or.inl rfl) | exact Or.inr (Or.inr rfl)))) pss_nil)
theorem sci_Unlike : FnScope ["self", "what"] ["self", "what"] (defScope in_Unlike) := ⟨rfl, rfl, rfl, by decide +kernel, rfl, by decide +kernel, by decide +kernel⟩
theorem xi_Unlike {C fI : Addr} {fd : FuncData} (hm : mg "Unlike" = some (.ref C)) (T : OexC K C) (iC : PySem.W.findIn K (.ref C) "__init__" = some (some (.ref fI))) (tI : PySem.W.typeIn K (.ref fI) = some (.type "function")) (F : Fun K "__init__" "Unlike.__init__" in_Unlike fI fd) (n1 : PySem.W.findIn K (.ref C) "what" = some none) : XCls P w K mg base "Unlike" ["what"] :=
  xcls1 hm T iC tI F sci_Unlike (fun_binds F fun _ _ _ _ _ _ us hl => match us, hl with | [_, _], _ => rfl) n1  fun cdv A outer s H E => (pss_cons (ps_ost (pe_var (i := 0) rfl (by first | exact Or.inl rfl | exact Or.inr (Or.inl rfl) | exact Or.inr (Or.inr rfl))) (pe_var (i := 1) rfl (by first | exact Or.inl rfl | exact Or.inr (Or.inl rfl) | exact Or.inr (Or.inr rfl)))) pss_nil)
theorem sci_NotThere : FnScope ["self", "paper"] ["self", "paper"] (defScope in_NotThere) := ⟨rfl, rfl, rfl, by decide +kernel, rfl, by decide +kernel, by decide +kernel⟩
theorem xi_NotThere {C fI : Addr} {fd : FuncData} (hm : mg "NotThere" = some (.ref C)) (T : OexC K C) (iC : PySem.W.findIn K (.ref C) "__init__" = some (some (.ref fI))) (tI : PySem.W.typeIn K (.ref fI) = some (.type "function")) (F : Fun K "__init__" "NotThere.__init__" in_NotThere fI fd) (n1 : PySem.W.findIn K (.ref C) "paper" = some none) : XCls P w K mg base "NotThere" ["paper"] :=
  xcls1 hm T iC tI F sci_NotThere (fun_binds F fun _ _ _ _ _ _ us hl => match us, hl with | [_, _], _ => rfl) n1  fun cdv A outer s H E => (pss_cons (ps_ost (pe_var (i := 0) rfl (by first | exact Or.inl rfl | exact Or.inr (Or.inl rfl) | exact Or.inr (Or.inr rfl))) (pe_var (i := 1) rfl (by first | exact Or.inl rfl | exact Or.inr (Or.inl rfl) | exact Or.inr (Or.inr rfl)))) pss_nil)
theorem sci_TooMany : FnScope ["self", "what", "many", "limit"] ["self", "what", "many", "limit"] (defScope in_TooMany) := ⟨rfl, rfl, rfl, by decide +kernel, rfl, by decide +kernel, by decide +kernel⟩
theorem xi_TooMany {C fI : Addr} {fd : FuncData} (hm : mg "TooMany" = some (.ref C)) (T : OexC K C) (iC : PySem.W.findIn K (.ref C) "__init__" = some (some (.ref fI))) (tI : PySem.W.typeIn K (.ref fI) = some (.type "function")) (F : Fun K "__init__" "TooMany.__init__" in_TooMany fI fd) (n1 : PySem.W.findIn K (.ref C) "what" = some none) (n2 : PySem.W.findIn K (.ref C) "many" = some none) (n3 : PySem.W.findIn K (.ref C) "limit" = some none) : XCls P w K mg base "TooMany" ["what", "many", "limit"] :=
  xcls3 hm T iC tI F sci_TooMany (fun_binds F fun _ _ _ _ _ _ us hl => match us, hl with | [_, _, _, _], _ => rfl) n1 n2 n3 (by decide +kernel) (by decide +kernel) (by decide +kernel) fun cdv A outer s H E => (pss_cons (ps_ost (pe_var (i := 0) rfl (by first | exact Or.inl rfl | exact Or.inr (Or.inl rfl) | exact Or.inr (Or.inr rfl))) (pe_var (i := 1) rfl (by first | exact Or.inl rfl | exact Or.inr (Or.inl rfl) | exact Or.inr (Or.inr rfl)))) (pss_cons (ps_ost (pe_var (i := 0) rfl (by first | exact Or.inl rfl | exact Or.inr (Or.inl rfl) | exact Or.inr (Or.inr rfl))) (pe_var (i := 2) rfl (by first | exact Or.inl rfl | exact Or.inr (Or.inl rfl) | exact Or.inr (Or.inr rfl)))) (pss_cons (ps_ost (pe_var (i := 0) rfl (by first | exact Or.inl rfl | exact Or.inr (Or.inl rfl) | exact Or.inr (Or.inr rfl))) (pe_var (i := 3) rfl (by first | exact Or.inl rfl | exact Or.inr (Or.inl rfl) | exact Or.inr (Or.inr rfl)))) pss_nil)))
theorem sci_NotKept : FnScope ["self", "promise", "witness"] ["self", "promise", "witness"] (defScope in_NotKept) := ⟨rfl, rfl, rfl, by decide +kernel, rfl, by decide +kernel, by decide +kernel⟩
theorem xi_NotKept {C fI : Addr} {fd : FuncData} (hm : mg "NotKept" = some (.ref C)) (T : OexC K C) (iC : PySem.W.findIn K (.ref C) "__init__" = some (some (.ref fI))) (tI : PySem.W.typeIn K (.ref fI) = some (.type "function")) (F : Fun K "__init__" "NotKept.__init__" in_NotKept fI fd) (n1 : PySem.W.findIn K (.ref C) "promise" = some none) (n2 : PySem.W.findIn K (.ref C) "witness" = some none) : XCls P w K mg base "NotKept" ["promise", "witness"] :=
  xcls2 hm T iC tI F sci_NotKept (fun_binds F fun _ _ _ _ _ _ us hl => match us, hl with | [_, _, _], _ => rfl) n1 n2 (by decide +kernel) fun cdv A outer s H E => (pss_cons (ps_ost (pe_var (i := 0) rfl (by first | exact Or.inl rfl | exact Or.inr (Or.inl rfl) | exact Or.inr (Or.inr rfl))) (pe_var (i := 1) rfl (by first | exact Or.inl rfl | exact Or.inr (Or.inl rfl) | exact Or.inr (Or.inr rfl)))) (pss_cons (ps_ost (pe_var (i := 0) rfl (by first | exact Or.inl rfl | exact Or.inr (Or.inl rfl) | exact Or.inr (Or.inr rfl))) (pe_var (i := 2) rfl (by first | exact Or.inl rfl | exact Or.inr (Or.inl rfl) | exact Or.inr (Or.inr rfl)))) pss_nil))
theorem d__law_pen (e : Fx P w K mg base T) : DefPen P w K mg base 3 := by
  obtain ⟨f, fd, hm, F⟩ := e.fn__law_pen
  refine pen_of F hm sc__law_pen (fun_binds F fun _ _ _ _ _ _ us hl => match us, hl with | [_], _ => rfl) fun cdv A outer s H E nd ps => ?_
  exact pss_cons (ps_set nd rfl (.inl rfl) pe_int) (pss_cons (ps_for ps rfl (pi_list (pe_var (i := 0) rfl (by first | exact Or.inl rfl | exact Or.inr (Or.inl rfl) | exact Or.inr (Or.inr rfl)))) (pg_name (i := 2) nd rfl (.inl rfl)) (pss_cons (ps_set (i := 1) nd rfl (.inl rfl) (pe_op op_mod (pe_callTy call_int1 (by rfl) e.fr_int (by rfl) (pa_cons (pe_op op_add (pe_op op_mulA (pe_var (i := 1) rfl (by first | exact Or.inl rfl | exact Or.inr (Or.inl rfl) | exact Or.inr (Or.inr rfl))) pe_int) (pe_var (i := 2) rfl (by first | exact Or.inl rfl | exact Or.inr (Or.inl rfl) | exact Or.inr (Or.inr rfl)))) pa_nil)) pe_int)) pss_nil)) (pss_cons (ps_ret (pe_disp (pps_cons pe_str (pe_callTy call_list_of (by rfl) e.fr_list (by rfl) (pa_cons (pe_var (i := 0) rfl (by first | exact Or.inl rfl | exact Or.inr (Or.inl rfl) | exact Or.inr (Or.inr rfl))) pa_nil)) (pps_cons pe_str pe_int (pps_cons pe_str pe_int (pps_cons pe_str pe_int (pps_cons pe_str (pe_var (i := 1) rfl (by first | exact Or.inl rfl | exact Or.inr (Or.inl rfl) | exact Or.inr (Or.inr rfl))) pps_nil))))) rfl rfl (by simp) (by decide))) pss_nil))
theorem d__law_draw (e : Fx P w K mg base T) : Def P w K mg base T 3 "_law_draw" specDraw := by
  obtain ⟨f, fd, hm, F⟩ := e.fn__law_draw
  refine draw_of F hm sc__law_draw (fun_binds F fun _ _ _ _ _ _ us hl => match us, hl with | [_, _], _ => rfl) fun cdv A outer s H E H0 d l ns hu64 nd hq => ?_
  have hu : (cxD P w K mg base ["pen", "many", "cell", "digit", "blend"] "_law_draw" st__law_draw f cdv A outer s H E).A.units + 1 < cLine := by omega
  exact (rs_cons (r_put hu uCt (fun p n => pp4) (p_add (p_get hu PSt.ct (fun _ => pv4)) p_int)) (rs_cons (r_if (q_and2 (q_cmp (op_eqI hu64) (p_get hu PSt.dg (fun _ => pv3)) p_int) (q_cmp op_lt (p_get hu PSt.pt (fun _ => pv2)) (p_len hq (p_cells hu) (by rfl) e.fr_len))) (rs_cons (r_set 1 nd (p_ix hq (p_cells hu) (p_get hu PSt.pt (fun _ => pv2)))) (rs_cons (r_put hu uPt (fun p n => pp2) (p_add (p_get hu PSt.pt (fun _ => pv2)) p_int)) (rs_cons (r_if (q_cmp op_ge (p_var 1) (p_pow p_int p_int)) (rs_cons (r_put hu uDg (fun p n => pp3) (p_sub (p_var 1) (p_pow p_int p_int))) rs_nil) (rs_cons (r_put hu uFo (fun p n => pp5) (p_mod (p_int1 (p_add (p_mul (p_get hu PSt.fo (fun _ => pv5)) p_int) (p_var 1)) (by rfl) e.fr_int) p_int)) rs_nil)) rs_nil))) rs_nil) (rs_cons (r_if (q_cmp op_gt (p_get hu PSt.dg (fun _ => pv3)) p_int) (rs_cons (r_set 2 nd (p_mod (p_int1 (p_get hu PSt.dg (fun _ => pv3)) (by rfl) e.fr_int) (p_var 0))) (rs_cons (r_put hu uDg (fun p n => pp3) (p_div (p_get hu PSt.dg (fun _ => pv3)) (p_var 0))) (rs_cons (r_ret (p_var 2)) rs_nil))) rs_nil) (rs_cons (r_set 3 nd (p_mod (p_int1 (p_add (p_add (p_mul (p_get hu PSt.fo (fun _ => pv5)) p_int) (p_mul (p_get hu PSt.ct (fun _ => pv4)) p_int)) p_int) (by rfl) e.fr_int) p_int)) (rs_cons (r_set 3 nd (p_mod (p_int1 (p_add (p_add (p_mul (p_var 3) (p_var 3)) (p_mul p_int (p_var 3))) (p_get hu PSt.ct (fun _ => pv4))) (by rfl) e.fr_int) p_int)) (rs_cons (r_put hu uFo (fun p n => pp5) (p_mod (p_int1 (p_add (p_mul (p_var 3) p_int) p_int) (by rfl) e.fr_int) p_int)) (rs_cons (r_ret (p_mod (p_int1 (p_div (p_var 3) p_int) (by rfl) e.fr_int) (p_var 0))) rs_nil)))))))
theorem d__law_more_kinds (e : Fx P w K mg base T) : DefX P w K mg base T 3 "_law_more_kinds" S_more := by
  obtain ⟨f, fd, hm, F⟩ := e.fn__law_more_kinds
  obtain ⟨E_NoName, g_NoName⟩ := e.cl "NoName" (by decide +kernel)
  obtain ⟨E_TakenName, g_TakenName⟩ := e.cl "TakenName" (by decide +kernel)
  obtain ⟨E_Unlike, g_Unlike⟩ := e.cl "Unlike" (by decide +kernel)
  obtain ⟨E_NotThere, g_NotThere⟩ := e.cl "NotThere" (by decide +kernel)
  obtain ⟨E_TooMany, g_TooMany⟩ := e.cl "TooMany" (by decide +kernel)
  obtain ⟨E_NotKept, g_NotKept⟩ := e.cl "NotKept" (by decide +kernel)
  obtain ⟨E_NothingToUndo, g_NothingToUndo⟩ := e.cl "NothingToUndo" (by decide +kernel)
  obtain ⟨E_NothingToRedo, g_NothingToRedo⟩ := e.cl "NothingToRedo" (by decide +kernel)
  refine defX_mk F hm sc__law_more_kinds (fun_binds F fun _ _ _ _ _ _ us hl => match us, hl with | [_], _ => rfl) more_mono e.xa fun cdv A outer s H E p gh a y hT c => ?_
  exact ⟨tMore y a, (dss_cons (ds_set 1 c.b rfl (.inl rfl) (dv_lst da_nil)) (dss_cons (ds_if (dt_tru c.b.hK (de_isX c (by decide +kernel) (by rfl) g_NoName (by rfl) e.fr_isinstance (de_var 0))) (dss_cons (ds_append 1 rfl (by first | exact Or.inl rfl | exact Or.inr (Or.inl rfl) | exact Or.inr (Or.inr rfl)) (de_tup (da_cons de_str (da_cons (de_repr c.b (by rfl) e.fr_repr (da_cons (de_xf c (by decide +kernel) (de_var 0)) da_nil)) da_nil)))) dss_nil) dss_nil) (dss_cons (ds_if (dt_tru c.b.hK (de_isX c (by decide +kernel) (by rfl) g_TakenName (by rfl) e.fr_isinstance (de_var 0))) (dss_cons (ds_append 1 rfl (by first | exact Or.inl rfl | exact Or.inr (Or.inl rfl) | exact Or.inr (Or.inr rfl)) (de_tup (da_cons de_str (da_cons (de_repr c.b (by rfl) e.fr_repr (da_cons (de_xf c (by decide +kernel) (de_var 0)) da_nil)) da_nil)))) dss_nil) dss_nil) (dss_cons (ds_if (dt_tru c.b.hK (de_isX c (by decide +kernel) (by rfl) g_Unlike (by rfl) e.fr_isinstance (de_var 0))) (dss_cons (ds_append 1 rfl (by first | exact Or.inl rfl | exact Or.inr (Or.inl rfl) | exact Or.inr (Or.inr rfl)) (de_tup (da_cons de_str (da_cons (de_xf c (by decide +kernel) (de_var 0)) da_nil)))) dss_nil) dss_nil) (dss_cons (ds_if (dt_tru c.b.hK (de_isX c (by decide +kernel) (by rfl) g_NotThere (by rfl) e.fr_isinstance (de_var 0))) (dss_cons (ds_append 1 rfl (by first | exact Or.inl rfl | exact Or.inr (Or.inl rfl) | exact Or.inr (Or.inr rfl)) (de_tup (da_cons de_str (da_cons (de_xf c (by decide +kernel) (de_var 0)) da_nil)))) dss_nil) dss_nil) (dss_cons (ds_if (dt_tru c.b.hK (de_isX c (by decide +kernel) (by rfl) g_TooMany (by rfl) e.fr_isinstance (de_var 0))) (dss_cons (ds_append 1 rfl (by first | exact Or.inl rfl | exact Or.inr (Or.inl rfl) | exact Or.inr (Or.inr rfl)) (de_tup (da_cons de_str (da_cons (de_xf c (by decide +kernel) (de_var 0)) (da_cons (de_xf c (by decide +kernel) (de_var 0)) (da_cons (de_xf c (by decide +kernel) (de_var 0)) da_nil)))))) dss_nil) dss_nil) (dss_cons (ds_if (dt_tru c.b.hK (de_isX c (by decide +kernel) (by rfl) g_NotKept (by rfl) e.fr_isinstance (de_var 0))) (dss_cons (ds_append 1 rfl (by first | exact Or.inl rfl | exact Or.inr (Or.inl rfl) | exact Or.inr (Or.inr rfl)) (de_tup (da_cons de_str (da_cons (de_xf c (by decide +kernel) (de_var 0)) (da_cons (de_xf c (by decide +kernel) (de_var 0)) da_nil))))) dss_nil) dss_nil) (dss_cons (ds_if (dt_tru c.b.hK (de_isX c (by decide +kernel) (by rfl) g_NothingToUndo (by rfl) e.fr_isinstance (de_var 0))) (dss_cons (ds_append 1 rfl (by first | exact Or.inl rfl | exact Or.inr (Or.inl rfl) | exact Or.inr (Or.inr rfl)) (de_tup (da_cons de_str da_nil))) dss_nil) dss_nil) (dss_cons (ds_if (dt_tru c.b.hK (de_isX c (by decide +kernel) (by rfl) g_NothingToRedo (by rfl) e.fr_isinstance (de_var 0))) (dss_cons (ds_append 1 rfl (by first | exact Or.inl rfl | exact Or.inr (Or.inl rfl) | exact Or.inr (Or.inr rfl)) (de_tup (da_cons de_str da_nil))) dss_nil) dss_nil) (dss_rel 1 (dss_cons (ds_ret (de_var 1)) dss_nil))))))))))), fun Kk h => more_read h⟩
theorem d__law_kinds (e : Fx P w K mg base T) (more : DefX P w K mg base T 3 "_law_more_kinds" S_more) : DefX P w K mg base T 4 "_law_kinds" S_kinds := by
  obtain ⟨f, fd, hm, F⟩ := e.fn__law_kinds
  obtain ⟨E_BadNumber, g_BadNumber⟩ := e.cl "BadNumber" (by decide +kernel)
  obtain ⟨E_BadRow, g_BadRow⟩ := e.cl "BadRow" (by decide +kernel)
  obtain ⟨E_BadTable, g_BadTable⟩ := e.cl "BadTable" (by decide +kernel)
  obtain ⟨E_BadBook, g_BadBook⟩ := e.cl "BadBook" (by decide +kernel)
  obtain ⟨E_BadName, g_BadName⟩ := e.cl "BadName" (by decide +kernel)
  obtain ⟨E_BadText, g_BadText⟩ := e.cl "BadText" (by decide +kernel)
  obtain ⟨E_NoPlace, g_NoPlace⟩ := e.cl "NoPlace" (by decide +kernel)
  refine defX_mk F hm sc__law_kinds (fun_binds F fun _ _ _ _ _ _ us hl => match us, hl with | [_], _ => rfl) kinds_mono e.xa fun cdv A outer s H E p gh a y hT c => ?_
  exact ⟨tKinds y a, (dss_cons (ds_set 1 c.b rfl (.inl rfl) (dv_lst da_nil)) (dss_cons (ds_if (dt_tru c.b.hK (de_isX c (by decide +kernel) (by rfl) g_BadNumber (by rfl) e.fr_isinstance (de_var 0))) (dss_cons (ds_append 1 rfl (by first | exact Or.inl rfl | exact Or.inr (Or.inl rfl) | exact Or.inr (Or.inr rfl)) (de_tup (da_cons de_str (da_cons (de_xf c (by decide +kernel) (de_var 0)) (da_cons (de_repr c.b (by rfl) e.fr_repr (da_cons (de_xf c (by decide +kernel) (de_var 0)) da_nil)) da_nil))))) dss_nil) dss_nil) (dss_cons (ds_if (dt_tru c.b.hK (de_isX c (by decide +kernel) (by rfl) g_BadRow (by rfl) e.fr_isinstance (de_var 0))) (dss_cons (ds_append 1 rfl (by first | exact Or.inl rfl | exact Or.inr (Or.inl rfl) | exact Or.inr (Or.inr rfl)) (de_tup (da_cons de_str (da_cons (de_xf c (by decide +kernel) (de_var 0)) (da_cons (de_repr c.b (by rfl) e.fr_repr (da_cons (de_xf c (by decide +kernel) (de_var 0)) da_nil)) da_nil))))) dss_nil) dss_nil) (dss_cons (ds_if (dt_tru c.b.hK (de_isX c (by decide +kernel) (by rfl) g_BadTable (by rfl) e.fr_isinstance (de_var 0))) (dss_cons (ds_append 1 rfl (by first | exact Or.inl rfl | exact Or.inr (Or.inl rfl) | exact Or.inr (Or.inr rfl)) (de_tup (da_cons de_str (da_cons (de_xf c (by decide +kernel) (de_var 0)) da_nil)))) dss_nil) dss_nil) (dss_cons (ds_if (dt_tru c.b.hK (de_isX c (by decide +kernel) (by rfl) g_BadBook (by rfl) e.fr_isinstance (de_var 0))) (dss_cons (ds_append 1 rfl (by first | exact Or.inl rfl | exact Or.inr (Or.inl rfl) | exact Or.inr (Or.inr rfl)) (de_tup (da_cons de_str (da_cons (de_xf c (by decide +kernel) (de_var 0)) da_nil)))) dss_nil) dss_nil) (dss_cons (ds_if (dt_tru c.b.hK (de_isX c (by decide +kernel) (by rfl) g_BadName (by rfl) e.fr_isinstance (de_var 0))) (dss_cons (ds_append 1 rfl (by first | exact Or.inl rfl | exact Or.inr (Or.inl rfl) | exact Or.inr (Or.inr rfl)) (de_tup (da_cons de_str (da_cons (de_repr c.b (by rfl) e.fr_repr (da_cons (de_xf c (by decide +kernel) (de_var 0)) da_nil)) da_nil)))) dss_nil) dss_nil) (dss_cons (ds_if (dt_tru c.b.hK (de_isX c (by decide +kernel) (by rfl) g_BadText (by rfl) e.fr_isinstance (de_var 0))) (dss_cons (ds_append 1 rfl (by first | exact Or.inl rfl | exact Or.inr (Or.inl rfl) | exact Or.inr (Or.inr rfl)) (de_tup (da_cons de_str (da_cons (de_xf c (by decide +kernel) (de_var 0)) (da_cons (de_xf c (by decide +kernel) (de_var 0)) da_nil))))) dss_nil) dss_nil) (dss_cons (ds_if (dt_tru c.b.hK (de_isX c (by decide +kernel) (by rfl) g_NoPlace (by rfl) e.fr_isinstance (de_var 0))) (dss_cons (ds_append 1 rfl (by first | exact Or.inl rfl | exact Or.inr (Or.inl rfl) | exact Or.inr (Or.inr rfl)) (de_tup (da_cons de_str (da_cons (de_xf c (by decide +kernel) (de_var 0)) (da_cons (de_repr c.b (by rfl) e.fr_repr (da_cons (de_xf c (by decide +kernel) (de_var 0)) da_nil)) da_nil))))) dss_nil) dss_nil) (dss_rel 1 (dss_cons (ds_ret (de_add c.b.hK (de_var 1) (de_callXT hT c more (by decide) (by rfl) (de_var 0)))) dss_nil)))))))))), fun Kk h => kinds_read h⟩
theorem d__law_fault (e : Fx P w K mg base T) (kinds : DefX P w K mg base T 4 "_law_kinds" S_kinds) : ∀ kl, 6 ≤ kl → FaultD P w K mg base T kl "_law_fault" "call" RKf := by
  intro kl hk
  obtain ⟨f, fd, hm, F⟩ := e.fn__law_fault
  obtain ⟨EP, gP⟩ := e.cl "PowerError" (by decide +kernel)
  refine ⟨st__law_fault, f, fd, _, hm, F, sc__law_fault, fun_binds F fun _ _ _ _ _ _ us hl => match us, hl with | [_], _ => rfl, .inl rfl, rfl, fun cdv A outer s H E gF f' SL EEF sm hT z act => ⟨tFault f' SL, ?_, fun Kk h => fault_read sm h⟩⟩
  exact dss_cons (ds_set 1 z.b rfl (.inl rfl) (dv_of de_non)) (dss_cons (ds_try 2 (tS := tFaultS) z e.xa rfl rfl (by rfl) gP (fun pn xe g1 EX' ds z1 => dss_cons (ds_expr (act pn xe g1 EX' _ _ ds z1.toCz)) dss_nil) (faultB_mono sm)
    (fun a oe pn g2 x hT2 c => dss_cons (ds_set 1 c.b rfl (.inl rfl) (dv_of (de_callXT (hT2.trans hT) c kinds (by omega) (by rfl) (de_var 2)))) (dss_cons (ds_set 1 c.b rfl (.inl rfl) (dv_of (de_ifExp (dw_and ((dc_eq c.b (de_len c.b (by rfl) e.fr_len (da_cons (de_var 1) da_nil)) de_int).dt _) (dw_and1 (dt_tru c.b.hK (de_isXV c (by rfl) e.fr_ValueError (by rfl) e.fr_isinstance (de_var 2))))).dt (de_ix c.b (de_var 1) de_int) (de_tup (da_cons de_str (da_cons (de_len c.b (by rfl) e.fr_len (da_cons (de_var 1) da_nil)) da_nil)))))) dss_nil)) faultS_mono) (dss_cons (ds_ret (de_var 1)) dss_nil))
theorem d_is_integer (e : Fx P w K mg base T)  : Def P w K mg base T 3 "is_integer" S_is_integer := by
  obtain ⟨f, fd, hm, F⟩ := e.fn_is_integer
  refine def_mk F hm sc_is_integer (fun_binds F fun _ _ _ _ _ _ us hl => match us, hl with | [_], _ => rfl) m_is_integer l_is_integer fun cdv A outer s H E EE gh hcd hK hmg hT z => ?_
  exact ⟨t_is_integer EE, (dss_cons (ds_ret (de_and (de_isi z.b ist_int (by rfl) e.fr_isinstance (de_var 0) (by rfl) e.fr_int (by rfl)) (de_one (de_not (de_isi z.b ist_bool (by rfl) e.fr_isinstance (de_var 0) (by rfl) e.fr_bool (by rfl)))))) dss_nil), fun ds Kk h => r_is_integer h⟩
theorem d_is_list (e : Fx P w K mg base T)  : Def P w K mg base T 3 "is_list" S_is_list := by
  obtain ⟨f, fd, hm, F⟩ := e.fn_is_list
  refine def_mk F hm sc_is_list (fun_binds F fun _ _ _ _ _ _ us hl => match us, hl with | [_], _ => rfl) m_is_list l_is_list fun cdv A outer s H E EE gh hcd hK hmg hT z => ?_
  exact ⟨t_is_list EE, (dss_cons (ds_ret (de_isSeq z.b (by rfl) e.fr_isinstance (de_var 0) (by rfl) e.fr_list (by rfl) e.fr_tuple)) dss_nil), fun ds Kk h => r_is_list h⟩
theorem d_need_kind (e : Fx P w K mg base T) (d_is_integer : Def P w K mg base T 3 "is_integer" S_is_integer) : Def P w K mg base T 4 "need_kind" S_need_kind := by
  obtain ⟨f, fd, hm, F⟩ := e.fn_need_kind
  refine def_mk F hm sc_need_kind (fun_binds F fun _ _ _ _ _ _ us hl => match us, hl with | [_], _ => rfl) m_need_kind l_need_kind fun cdv A outer s H E EE gh hcd hK hmg hT z => ?_
  exact ⟨t_need_kind EE, (dss_cons (ds_if (dw_or (dt_not (dt_tru z.hK (de_callT hT z.toCz d_is_integer (by decide) (by rfl) (da_cons (de_var 0) da_nil)))) (dw_or1 ((dc_notIn z.b (de_var 0) (de_tup (da_cons de_int (da_cons de_int da_nil)))).dt _))).dt (dss_cons (ds_raise z.toCz e.xc_BadNumber (by decide) (by rfl) (da_cons de_str (da_cons (de_var 0) da_nil))) dss_nil) dss_nil) dss_nil), fun ds Kk h => r_need_kind h⟩
theorem d_is_letters (e : Fx P w K mg base T) (d_is_integer : Def P w K mg base T 3 "is_integer" S_is_integer) : Def P w K mg base T 4 "is_letters" S_is_letters := by
  obtain ⟨f, fd, hm, F⟩ := e.fn_is_letters
  obtain ⟨u_MOST_LETTER, i_MOST_LETTER⟩ := e.i_MOST_LETTER
  refine def_mk F hm sc_is_letters (fun_binds F fun _ _ _ _ _ _ us hl => match us, hl with | [_], _ => rfl) m_is_letters l_is_letters fun cdv A outer s H E EE gh hcd hK hmg hT z => ?_
  exact ⟨t_is_letters EE, (dss_cons (ds_if (dw_or (dt_not (dt_tru z.hK (de_isi z.b ist_tup (by rfl) e.fr_isinstance (de_var 0) (by rfl) e.fr_tuple (by rfl)))) (dw_or1 ((dc_ne z.b (de_len z.b (by rfl) e.fr_len (da_cons (de_var 0) da_nil)) de_int).dt _))).dt (dss_cons (ds_ret de_bl) dss_nil) dss_nil) (dss_cons (ds_ret (de_all z.toCz (by rfl) e.fr_all (da_cons (de_ofV (dv_lc (own := [("one", 1)]) z.toCz (di_seq z.toCz (de_var 0)) (blkOk_by (N := ["value", "one"]) (sc := defScope st_is_letters) (by decide +kernel)) ⟨fun s H C cl fp g' gi zc => ⟨(dgv_name 1 zc.b (by decide) rfl (by first | exact Or.inl rfl | exact Or.inr rfl)), dts_nil, (de_and (de_callT (gi.2.2.trans hT) zc d_is_integer (by decide) (by rfl) (da_cons (de_var 1) da_nil)) (de_one ((dc_le (de_abs (by rfl) e.fr_abs (da_cons (de_var 1) da_nil)) (de_gint (by rfl) i_MOST_LETTER)).de _)))⟩⟩)) da_nil))) dss_nil)), fun ds Kk h => r_is_letters h⟩
theorem d_need_letters (e : Fx P w K mg base T) (d_is_letters : Def P w K mg base T 4 "is_letters" S_is_letters) (d_is_list : Def P w K mg base T 3 "is_list" S_is_list) : Def P w K mg base T 5 "need_letters" S_need_letters := by
  obtain ⟨f, fd, hm, F⟩ := e.fn_need_letters
  refine def_mk F hm sc_need_letters (fun_binds F fun _ _ _ _ _ _ us hl => match us, hl with | [_, _], _ => rfl) m_need_letters l_need_letters fun cdv A outer s H E EE gh hcd hK hmg hT z => ?_
  exact ⟨t_need_letters EE, (dss_cons (ds_set 2 z.b rfl (.inl rfl) (dv_of (de_ifExp (dt_tru z.hK (de_callT hT z.toCz d_is_list (by decide) (by rfl) (da_cons (de_var 0) da_nil))) (de_tuple z.b (by rfl) e.fr_tuple (da_cons (de_var 0) da_nil)) (de_var 0)))) (dss_cons (ds_if (dt_not (dt_tru z.hK (de_callT hT z.toCz d_is_letters (by decide) (by rfl) (da_cons (de_var 2) da_nil)))) (dss_cons (ds_raise z.toCz e.xc_BadRow (by decide) (by rfl) (da_cons (de_var 1) (da_cons (de_var 0) da_nil))) dss_nil) dss_nil) (dss_cons (ds_ret (de_var 2)) dss_nil))), fun ds Kk h => r_need_letters h⟩
theorem d_norm_by (e : Fx P w K mg base T)  : Def P w K mg base T 3 "norm_by" S_norm_by := by
  obtain ⟨f, fd, hm, F⟩ := e.fn_norm_by
  refine def_mk F hm sc_norm_by (fun_binds F fun _ _ _ _ _ _ us hl => match us, hl with | [_, _], _ => rfl) m_norm_by l_norm_by fun cdv A outer s H E EE gh hcd hK hmg hT z => ?_
  exact ⟨t_norm_by EE, (dss_cons (ds_asg (de_var 1) (dg_tup z.toCz (dgs_cons (dg_name 2 z.b rfl (.inl rfl)) (dgs_cons (dg_name 3 z.b rfl (.inl rfl)) dgs_nil)))) (dss_cons (ds_ret (de_ifExp ((dc_eq z.b (de_var 0) de_int).dt _) (de_add z.hK (de_mul (de_var 2) (de_var 2)) (de_mul (de_var 3) (de_var 3))) (de_add z.hK (de_sub (de_mul (de_var 2) (de_var 2)) (de_mul (de_var 2) (de_var 3))) (de_mul (de_var 3) (de_var 3))))) dss_nil)), fun ds Kk h => r_norm_by h⟩
theorem d_other_by (e : Fx P w K mg base T)  : Def P w K mg base T 3 "other_by" S_other_by := by
  obtain ⟨f, fd, hm, F⟩ := e.fn_other_by
  refine def_mk F hm sc_other_by (fun_binds F fun _ _ _ _ _ _ us hl => match us, hl with | [_, _], _ => rfl) m_other_by l_other_by fun cdv A outer s H E EE gh hcd hK hmg hT z => ?_
  exact ⟨t_other_by EE, (dss_cons (ds_asg (de_var 1) (dg_tup z.toCz (dgs_cons (dg_name 2 z.b rfl (.inl rfl)) (dgs_cons (dg_name 3 z.b rfl (.inl rfl)) dgs_nil)))) (dss_cons (ds_ret (de_ifExp ((dc_eq z.b (de_var 0) de_int).dt _) (de_tup (da_cons (de_var 2) (da_cons (de_sub de_int (de_var 3)) da_nil))) (de_tup (da_cons (de_sub (de_var 2) (de_var 3)) (da_cons (de_sub de_int (de_var 3)) da_nil))))) dss_nil)), fun ds Kk h => r_other_by h⟩
theorem d_product_by (e : Fx P w K mg base T)  : Def P w K mg base T 3 "product_by" S_product_by := by
  obtain ⟨f, fd, hm, F⟩ := e.fn_product_by
  refine def_mk F hm sc_product_by (fun_binds F fun _ _ _ _ _ _ us hl => match us, hl with | [_, _, _], _ => rfl) m_product_by l_product_by fun cdv A outer s H E EE gh hcd hK hmg hT z => ?_
  exact ⟨t_product_by EE, (dss_cons (ds_asg (de_var 1) (dg_tup z.toCz (dgs_cons (dg_name 3 z.b rfl (.inl rfl)) (dgs_cons (dg_name 4 z.b rfl (.inl rfl)) dgs_nil)))) (dss_cons (ds_asg (de_var 2) (dg_tup z.toCz (dgs_cons (dg_name 5 z.b rfl (.inl rfl)) (dgs_cons (dg_name 6 z.b rfl (.inl rfl)) dgs_nil)))) (dss_cons (ds_ret (de_ifExp ((dc_eq z.b (de_var 0) de_int).dt _) (de_tup (da_cons (de_sub (de_mul (de_var 3) (de_var 5)) (de_mul (de_var 4) (de_var 6))) (da_cons (de_add z.hK (de_mul (de_var 3) (de_var 6)) (de_mul (de_var 4) (de_var 5))) da_nil))) (de_tup (da_cons (de_sub (de_mul (de_var 3) (de_var 5)) (de_mul (de_var 4) (de_var 6))) (da_cons (de_sub (de_add z.hK (de_mul (de_var 3) (de_var 6)) (de_mul (de_var 4) (de_var 5))) (de_mul (de_var 4) (de_var 6))) da_nil))))) dss_nil))), fun ds Kk h => r_product_by h⟩
theorem d_less_by (e : Fx P w K mg base T)  : Def P w K mg base T 3 "less_by" S_less_by := by
  obtain ⟨f, fd, hm, F⟩ := e.fn_less_by
  refine def_mk F hm sc_less_by (fun_binds F fun _ _ _ _ _ _ us hl => match us, hl with | [_, _], _ => rfl) m_less_by l_less_by fun cdv A outer s H E EE gh hcd hK hmg hT z => ?_
  exact ⟨t_less_by EE, (dss_cons (ds_ret (de_tup (da_cons (de_sub (de_ix z.b (de_var 0) de_int) (de_ix z.b (de_var 1) de_int)) (da_cons (de_sub (de_ix z.b (de_var 0) de_int) (de_ix z.b (de_var 1) de_int)) da_nil)))) dss_nil), fun ds Kk h => r_less_by h⟩
theorem d_quotient_by (e : Fx P w K mg base T) (d_norm_by : Def P w K mg base T 3 "norm_by" S_norm_by) (d_other_by : Def P w K mg base T 3 "other_by" S_other_by) (d_product_by : Def P w K mg base T 3 "product_by" S_product_by) : Def P w K mg base T 4 "quotient_by" S_quotient_by := by
  obtain ⟨f, fd, hm, F⟩ := e.fn_quotient_by
  refine def_mk F hm sc_quotient_by (fun_binds F fun _ _ _ _ _ _ us hl => match us, hl with | [_, _, _], _ => rfl) m_quotient_by l_quotient_by fun cdv A outer s H E EE gh hcd hK hmg hT z => ?_
  exact ⟨t_quotient_by EE, (dss_cons (ds_par 3 4 z.toCz rfl rfl (by decide) rfl rfl (da_cons (de_callT hT z.toCz d_product_by (by decide) (by rfl) (da_cons (de_var 0) (da_cons (de_var 1) (da_cons (de_callT hT z.toCz d_other_by (by decide) (by rfl) (da_cons (de_var 0) (da_cons (de_var 2) da_nil))) da_nil)))) (da_cons (de_callT hT z.toCz d_norm_by (by decide) (by rfl) (da_cons (de_var 0) (da_cons (de_var 2) da_nil))) da_nil)) rfl) (dss_cons (ds_ret (de_tup (da_cons (de_fdiv (de_add z.hK (de_mul de_int (de_ix z.b (de_var 3) de_int)) (de_var 4)) (de_mul de_int (de_var 4))) (da_cons (de_fdiv (de_add z.hK (de_mul de_int (de_ix z.b (de_var 3) de_int)) (de_var 4)) (de_mul de_int (de_var 4))) da_nil)))) dss_nil)), fun ds Kk h => r_quotient_by h⟩
theorem d_rest_by (e : Fx P w K mg base T) (d_less_by : Def P w K mg base T 3 "less_by" S_less_by) (d_product_by : Def P w K mg base T 3 "product_by" S_product_by) (d_quotient_by : Def P w K mg base T 4 "quotient_by" S_quotient_by) : Def P w K mg base T 5 "rest_by" S_rest_by := by
  obtain ⟨f, fd, hm, F⟩ := e.fn_rest_by
  refine def_mk F hm sc_rest_by (fun_binds F fun _ _ _ _ _ _ us hl => match us, hl with | [_, _, _], _ => rfl) m_rest_by l_rest_by fun cdv A outer s H E EE gh hcd hK hmg hT z => ?_
  exact ⟨t_rest_by EE, (dss_cons (ds_ret (de_callT hT z.toCz d_less_by (by decide) (by rfl) (da_cons (de_var 1) (da_cons (de_callT hT z.toCz d_product_by (by decide) (by rfl) (da_cons (de_var 0) (da_cons (de_callT hT z.toCz d_quotient_by (by decide) (by rfl) (da_cons (de_var 0) (da_cons (de_var 1) (da_cons (de_var 2) da_nil)))) (da_cons (de_var 2) da_nil)))) da_nil)))) dss_nil), fun ds Kk h => r_rest_by h⟩
theorem d_goes_by (e : Fx P w K mg base T) (d_rest_by : Def P w K mg base T 5 "rest_by" S_rest_by) : Def P w K mg base T 6 "goes_by" S_goes_by := by
  obtain ⟨f, fd, hm, F⟩ := e.fn_goes_by
  refine def_mk F hm sc_goes_by (fun_binds F fun _ _ _ _ _ _ us hl => match us, hl with | [_, _, _], _ => rfl) m_goes_by l_goes_by fun cdv A outer s H E EE gh hcd hK hmg hT z => ?_
  exact ⟨t_goes_by EE, (dss_cons (ds_ret ((dc_eq z.b (de_callT hT z.toCz d_rest_by (by decide) (by rfl) (da_cons (de_var 0) (da_cons (de_var 2) (da_cons (de_var 1) da_nil)))) (de_tup (da_cons de_int (da_cons de_int da_nil)))).de _)) dss_nil), fun ds Kk h => r_goes_by h⟩
theorem d_units_by (e : Fx P w K mg base T) (d_product_by : Def P w K mg base T 3 "product_by" S_product_by) : Def P w K mg base T 4 "units_by" S_units_by := by
  obtain ⟨f, fd, hm, F⟩ := e.fn_units_by
  refine def_mk F hm sc_units_by (fun_binds F fun _ _ _ _ _ _ us hl => match us, hl with | [_], _ => rfl) m_units_by l_units_by fun cdv A outer s H E EE gh hcd hK hmg hT z => ?_
  exact ⟨t_units_by EE, (dss_cons (ds_set 1 z.b rfl (.inl rfl) (dv_lst (da_cons (de_tup (da_cons de_int (da_cons de_int da_nil))) da_nil))) (dss_cons (ds_forR z (by rfl) e.fr_range (de_ifExp ((dc_eq z.b (de_var 0) de_int).dt _) de_int de_int) (dg_name 2 z.b rfl (.inl rfl)) (dss_cons (ds_append 1 rfl (by first | exact Or.inl rfl | exact Or.inr (Or.inl rfl) | exact Or.inr (Or.inr rfl)) (de_callT hT z.toCz d_product_by (by decide) (by rfl) (da_cons (de_var 0) (da_cons (de_ixO 1 (de_neg de_int)) (da_cons (de_ifExp ((dc_eq z.b (de_var 0) de_int).dt _) (de_tup (da_cons de_int (da_cons de_int da_nil))) (de_tup (da_cons de_int (da_cons de_int da_nil)))) da_nil))))) dss_nil)) (dss_rel 1 (dss_cons (ds_ret (de_var 1)) dss_nil)))), fun ds Kk h => r_units_by h⟩
theorem d_power_by (e : Fx P w K mg base T) (d_product_by : Def P w K mg base T 3 "product_by" S_product_by) : Def P w K mg base T 4 "power_by" S_power_by := by
  obtain ⟨f, fd, hm, F⟩ := e.fn_power_by
  refine def_mk F hm sc_power_by (fun_binds F fun _ _ _ _ _ _ us hl => match us, hl with | [_, _, _], _ => rfl) m_power_by l_power_by fun cdv A outer s H E EE gh hcd hK hmg hT z => ?_
  exact ⟨t_power_by EE, (dss_cons (ds_set 3 z.b rfl (.inl rfl) (dv_of (de_tup (da_cons de_int (da_cons de_int da_nil))))) (dss_cons (ds_forR z (by rfl) e.fr_range (de_var 2) (dg_name 4 z.b rfl (.inl rfl)) (dss_cons (ds_set 3 z.b rfl (.inl rfl) (dv_of (de_callT hT z.toCz d_product_by (by decide) (by rfl) (da_cons (de_var 0) (da_cons (de_var 3) (da_cons (de_var 1) da_nil)))))) dss_nil)) (dss_cons (ds_ret (de_var 3)) dss_nil))), fun ds Kk h => r_power_by h⟩
theorem d_even_by (e : Fx P w K mg base T)  : Def P w K mg base T 3 "even_by" S_even_by := by
  obtain ⟨f, fd, hm, F⟩ := e.fn_even_by
  refine def_mk F hm sc_even_by (fun_binds F fun _ _ _ _ _ _ us hl => match us, hl with | [_], _ => rfl) m_even_by l_even_by fun cdv A outer s H E EE gh hcd hK hmg hT z => ?_
  exact ⟨t_even_by EE, (dss_cons (ds_ret (de_ifExp ((dc_eq z.b (de_var 0) de_int).dt _) (de_tup (da_cons de_int (da_cons de_int da_nil))) (de_tup (da_cons de_int (da_cons (de_neg de_int) da_nil))))) dss_nil), fun ds Kk h => r_even_by h⟩
theorem d_is_primary_by (e : Fx P w K mg base T)  : Def P w K mg base T 3 "is_primary_by" S_is_primary_by := by
  obtain ⟨f, fd, hm, F⟩ := e.fn_is_primary_by
  refine def_mk F hm sc_is_primary_by (fun_binds F fun _ _ _ _ _ _ us hl => match us, hl with | [_, _], _ => rfl) m_is_primary_by l_is_primary_by fun cdv A outer s H E EE gh hcd hK hmg hT z => ?_
  exact ⟨t_is_primary_by EE, (dss_cons (ds_asg (de_var 1) (dg_tup z.toCz (dgs_cons (dg_name 2 z.b rfl (.inl rfl)) (dgs_cons (dg_name 3 z.b rfl (.inl rfl)) dgs_nil)))) (dss_cons (ds_if ((dc_eq z.b (de_var 0) de_int).dt _) (dss_cons (ds_ret (de_and ((dc_eq z.b (de_mod (de_var 2) de_int) de_int).de _) (de_and ((dc_eq z.b (de_mod (de_var 3) de_int) de_int).de _) (de_one ((dc_eq z.b (de_mod (de_add z.hK (de_var 2) (de_var 3)) de_int) de_int).de _))))) dss_nil) dss_nil) (dss_cons (ds_ret (de_and ((dc_eq z.b (de_mod (de_var 2) de_int) de_int).de _) (de_one ((dc_eq z.b (de_mod (de_var 3) de_int) de_int).de _)))) dss_nil))), fun ds Kk h => r_is_primary_by h⟩
theorem d_parted_by (e : Fx P w K mg base T) (d_even_by : Def P w K mg base T 3 "even_by" S_even_by) (d_goes_by : Def P w K mg base T 6 "goes_by" S_goes_by) (d_is_primary_by : Def P w K mg base T 3 "is_primary_by" S_is_primary_by) (d_product_by : Def P w K mg base T 3 "product_by" S_product_by) (d_quotient_by : Def P w K mg base T 4 "quotient_by" S_quotient_by) (d_units_by : Def P w K mg base T 4 "units_by" S_units_by) : Def P w K mg base T 7 "parted_by" S_parted_by := by
  obtain ⟨f, fd, hm, F⟩ := e.fn_parted_by
  refine def_mk F hm sc_parted_by (fun_binds F fun _ _ _ _ _ _ us hl => match us, hl with | [_, _], _ => rfl) m_parted_by l_parted_by fun cdv A outer s H E EE gh hcd hK hmg hT z => ?_
  exact ⟨t_parted_by EE, (dss_cons (ds_par 2 3 z.toCz rfl rfl (by decide) rfl rfl (da_cons (de_callT hT z.toCz d_even_by (by decide) (by rfl) (da_cons (de_var 0) da_nil)) (da_cons de_int da_nil)) rfl) (dss_cons (ds_while z (dt_tru z.hK (de_callT hT z.toCz d_goes_by (by decide) (by rfl) (da_cons (de_var 0) (da_cons (de_var 2) (da_cons (de_var 1) da_nil))))) (dss_cons (ds_par 1 3 z.toCz rfl rfl (by decide) rfl rfl (da_cons (de_callT hT z.toCz d_quotient_by (by decide) (by rfl) (da_cons (de_var 0) (da_cons (de_var 1) (da_cons (de_var 2) da_nil)))) (da_cons (de_add z.hK (de_var 3) de_int) da_nil)) rfl) dss_nil)) (dss_cons (ds_set 4 z.b rfl (.inl rfl) (dv_of (de_callT hT z.toCz d_units_by (by decide) (by rfl) (da_cons (de_var 0) da_nil)))) (dss_cons (ds_forR z (by rfl) e.fr_range (de_len z.b (by rfl) e.fr_len (da_cons (de_var 4) da_nil)) (dg_name 5 z.b rfl (.inl rfl)) (dss_cons (ds_set 6 z.b rfl (.inl rfl) (dv_of (de_callT hT z.toCz d_product_by (by decide) (by rfl) (da_cons (de_var 0) (da_cons (de_var 1) (da_cons (de_ix z.b (de_var 4) (de_sub de_int (de_var 5))) da_nil)))))) (dss_cons (ds_if (dt_tru z.hK (de_callT hT z.toCz d_is_primary_by (by decide) (by rfl) (da_cons (de_var 0) (da_cons (de_var 6) da_nil)))) (dss_cons (ds_ret (de_tup (da_cons (de_var 3) (da_cons (de_var 5) (da_cons (de_var 6) da_nil))))) dss_nil) dss_nil) dss_nil))) (dss_cons (ds_ret de_non) dss_nil))))), fun ds Kk h => r_parted_by h⟩
theorem d_common_by (e : Fx P w K mg base T) (d_even_by : Def P w K mg base T 3 "even_by" S_even_by) (d_parted_by : Def P w K mg base T 7 "parted_by" S_parted_by) (d_power_by : Def P w K mg base T 4 "power_by" S_power_by) (d_product_by : Def P w K mg base T 3 "product_by" S_product_by) (d_rest_by : Def P w K mg base T 5 "rest_by" S_rest_by) : Def P w K mg base T 8 "common_by" S_common_by := by
  obtain ⟨f, fd, hm, F⟩ := e.fn_common_by
  refine def_mk F hm sc_common_by (fun_binds F fun _ _ _ _ _ _ us hl => match us, hl with | [_, _, _], _ => rfl) m_common_by l_common_by fun cdv A outer s H E EE gh hcd hK hmg hT z => ?_
  exact ⟨t_common_by EE, (dss_cons (ds_while z ((dc_ne z.b (de_var 2) (de_tup (da_cons de_int (da_cons de_int da_nil)))).dt _) (dss_cons (ds_par 1 2 z.toCz rfl rfl (by decide) rfl rfl (da_cons (de_var 2) (da_cons (de_callT hT z.toCz d_rest_by (by decide) (by rfl) (da_cons (de_var 0) (da_cons (de_var 1) (da_cons (de_var 2) da_nil)))) da_nil)) rfl) dss_nil)) (dss_cons (ds_if ((dc_eq z.b (de_var 1) (de_tup (da_cons de_int (da_cons de_int da_nil)))).dt _) (dss_cons (ds_ret (de_var 1)) dss_nil) dss_nil) (dss_cons (ds_asg (de_callT hT z.toCz d_parted_by (by decide) (by rfl) (da_cons (de_var 0) (da_cons (de_var 1) da_nil))) (dg_tup z.toCz (dgs_cons (dg_name 3 z.b rfl (.inl rfl)) (dgs_cons (dg_name 4 z.b rfl (.inl rfl)) (dgs_cons (dg_name 5 z.b rfl (.inl rfl)) dgs_nil))))) (dss_cons (ds_ret (de_callT hT z.toCz d_product_by (by decide) (by rfl) (da_cons (de_var 0) (da_cons (de_callT hT z.toCz d_power_by (by decide) (by rfl) (da_cons (de_var 0) (da_cons (de_callT hT z.toCz d_even_by (by decide) (by rfl) (da_cons (de_var 0) da_nil)) (da_cons (de_var 3) da_nil)))) (da_cons (de_var 5) da_nil))))) dss_nil)))), fun ds Kk h => r_common_by h⟩
theorem d_is_primary (e : Fx P w K mg base T) (d_is_primary_by : Def P w K mg base T 3 "is_primary_by" S_is_primary_by) (d_need_kind : Def P w K mg base T 4 "need_kind" S_need_kind) (d_need_letters : Def P w K mg base T 5 "need_letters" S_need_letters) : Def P w K mg base T 6 "is_primary" S_is_primary := by
  obtain ⟨f, fd, hm, F⟩ := e.fn_is_primary
  refine def_mk F hm sc_is_primary (fun_binds F fun _ _ _ _ _ _ us hl => match us, hl with | [_, _], _ => rfl) m_is_primary l_is_primary fun cdv A outer s H E EE gh hcd hK hmg hT z => ?_
  exact ⟨t_is_primary EE, (dss_cons (ds_expr (de_callT hT z.toCz d_need_kind (by decide) (by rfl) (da_cons (de_var 0) da_nil))) (dss_cons (ds_ret (de_callT hT z.toCz d_is_primary_by (by decide) (by rfl) (da_cons (de_var 0) (da_cons (de_callT hT z.toCz d_need_letters (by decide) (by rfl) (da_cons (de_var 1) (da_cons de_str da_nil))) da_nil)))) dss_nil)), fun ds Kk h => r_is_primary h⟩
theorem d_primary_of (e : Fx P w K mg base T) (d_need_kind : Def P w K mg base T 4 "need_kind" S_need_kind) (d_need_letters : Def P w K mg base T 5 "need_letters" S_need_letters) (d_parted_by : Def P w K mg base T 7 "parted_by" S_parted_by) : Def P w K mg base T 8 "primary_of" S_primary_of := by
  obtain ⟨f, fd, hm, F⟩ := e.fn_primary_of
  refine def_mk F hm sc_primary_of (fun_binds F fun _ _ _ _ _ _ us hl => match us, hl with | [_, _], _ => rfl) m_primary_of l_primary_of fun cdv A outer s H E EE gh hcd hK hmg hT z => ?_
  exact ⟨t_primary_of EE, (dss_cons (ds_expr (de_callT hT z.toCz d_need_kind (by decide) (by rfl) (da_cons (de_var 0) da_nil))) (dss_cons (ds_set 2 z.b rfl (.inl rfl) (dv_of (de_callT hT z.toCz d_need_letters (by decide) (by rfl) (da_cons (de_var 1) (da_cons de_str da_nil))))) (dss_cons (ds_if ((dc_eq z.b (de_var 2) (de_tup (da_cons de_int (da_cons de_int da_nil)))).dt _) (dss_cons (ds_raise z.toCz e.xc_Unlike (by decide) (by rfl) (da_cons de_str da_nil)) dss_nil) dss_nil) (dss_cons (ds_ret (de_callT hT z.toCz d_parted_by (by decide) (by rfl) (da_cons (de_var 0) (da_cons (de_var 2) da_nil)))) dss_nil)))), fun ds Kk h => r_primary_of h⟩
theorem d_common_part (e : Fx P w K mg base T) (d_common_by : Def P w K mg base T 8 "common_by" S_common_by) (d_need_kind : Def P w K mg base T 4 "need_kind" S_need_kind) (d_need_letters : Def P w K mg base T 5 "need_letters" S_need_letters) : Def P w K mg base T 9 "common_part" S_common_part := by
  obtain ⟨f, fd, hm, F⟩ := e.fn_common_part
  refine def_mk F hm sc_common_part (fun_binds F fun _ _ _ _ _ _ us hl => match us, hl with | [_, _, _], _ => rfl) m_common_part l_common_part fun cdv A outer s H E EE gh hcd hK hmg hT z => ?_
  exact ⟨t_common_part EE, (dss_cons (ds_expr (de_callT hT z.toCz d_need_kind (by decide) (by rfl) (da_cons (de_var 0) da_nil))) (dss_cons (ds_set 3 z.b rfl (.inl rfl) (dv_of (de_callT hT z.toCz d_need_letters (by decide) (by rfl) (da_cons (de_var 1) (da_cons de_str da_nil))))) (dss_cons (ds_ret (de_callT hT z.toCz d_common_by (by decide) (by rfl) (da_cons (de_var 0) (da_cons (de_var 3) (da_cons (de_callT hT z.toCz d_need_letters (by decide) (by rfl) (da_cons (de_var 2) (da_cons de_str da_nil))) da_nil))))) dss_nil))), fun ds Kk h => r_common_part h⟩
theorem d__law_pick (e : Fx P w K mg base T) (d__law_draw : Def P w K mg base T 3 "_law_draw" S__law_draw) : Def P w K mg base T 4 "_law_pick" S__law_pick := by
  obtain ⟨f, fd, hm, F⟩ := e.fn__law_pick
  refine def_mk F hm sc__law_pick (fun_binds F fun _ _ _ _ _ _ us hl => match us, hl with | [_, _], _ => rfl) m__law_pick l__law_pick fun cdv A outer s H E EE gh hcd hK hmg hT z => ?_
  exact ⟨t__law_pick EE, (dss_cons (ds_ret (de_ix z.b (de_var 1) (de_callT hT z.toCz d__law_draw (by decide) (by rfl) (da_cons (de_var 0) (da_cons (de_len z.b (by rfl) e.fr_len (da_cons (de_var 1) da_nil)) da_nil))))) dss_nil), fun ds Kk h => r__law_pick h⟩
theorem d__law_is (e : Fx P w K mg base T)  : ∀ n, Def P w K mg base T (3 + n) "_law_is" (S__law_is n)
  | 0 => by
    obtain ⟨f, fd, hm, F⟩ := e.fn__law_is
    exact def_never F hm (fun_binds (ps := ["told", "due"]) F fun _ _ _ _ _ _ us hl => match us, hl with | [_, _], _ => rfl)
  | n + 1 => by
    have ih := d__law_is e  n
    obtain ⟨f, fd, hm, F⟩ := e.fn__law_is
    refine def_mk F hm sc__law_is (fun_binds F fun _ _ _ _ _ _ us hl => match us, hl with | [_, _], _ => rfl) (m__law_is (n + 1)) (l__law_is (n + 1)) fun cdv A outer s H E EE gh hcd hK hmg hT z => ?_
    exact ⟨t__law_is n EE, (dss_cons (ds_if (dt_tru z.hK (de_isi z.b ist_tup (by rfl) e.fr_isinstance (de_var 1) (by rfl) e.fr_tuple (by rfl))) (dss_cons (ds_if (dw_or (dt_not (dt_tru z.hK (de_isi z.b ist_tup (by rfl) e.fr_isinstance (de_var 0) (by rfl) e.fr_tuple (by rfl)))) (dw_or1 ((dc_ne z.b (de_len z.b (by rfl) e.fr_len (da_cons (de_var 0) da_nil)) (de_len z.b (by rfl) e.fr_len (da_cons (de_var 1) da_nil))).dt _))).dt (dss_cons (ds_ret de_bl) dss_nil) dss_nil) (dss_cons (ds_ret ((dc_eq z.b (de_ofV (dv_lc (own := [("at", 2)]) z.toCz (di_range (by rfl) e.fr_range (de_len z.b (by rfl) e.fr_len (da_cons (de_var 1) da_nil))) (blkOk_by (N := ["told", "due", "at"]) (sc := defScope st__law_is) (by decide +kernel)) ⟨fun s H C cl fp g' gi zc => ⟨(dgv_name 2 zc.b (by decide) rfl (by first | exact Or.inl rfl | exact Or.inr rfl)), (dts_one (dt_not (dt_tru zc.hK (de_callT (gi.2.2.trans hT) zc ih (Nat.le_refl _) (by rfl) (da_cons (de_ix zc.b (de_var 0) (de_var 2)) (da_cons (de_ix zc.b (de_var 1) (de_var 2)) da_nil)))))), (de_var 2)⟩⟩)) (de_lst da_nil)).de _)) dss_nil)) dss_nil) (dss_cons (ds_if ((dc_is (de_var 1) de_non).dt _) (dss_cons (ds_ret ((dc_is (de_var 0) de_non).de _)) dss_nil) dss_nil) (dss_cons (ds_if ((dc_is (de_var 1) de_bl).dt _) (dss_cons (ds_ret ((dc_is (de_var 0) de_bl).de _)) dss_nil) dss_nil) (dss_cons (ds_if ((dc_is (de_var 1) de_bl).dt _) (dss_cons (ds_ret ((dc_is (de_var 0) de_bl).de _)) dss_nil) dss_nil) (dss_cons (ds_if (dt_tru z.hK (de_isi z.b ist_str (by rfl) e.fr_isinstance (de_var 1) (by rfl) e.fr_str (by rfl))) (dss_cons (ds_ret (de_and (de_isi z.b ist_str (by rfl) e.fr_isinstance (de_var 0) (by rfl) e.fr_str (by rfl)) (de_one ((dc_eq z.b (de_var 0) (de_var 1)).de _)))) dss_nil) dss_nil) (dss_cons (ds_ret (de_and (de_isi z.b ist_int (by rfl) e.fr_isinstance (de_var 0) (by rfl) e.fr_int (by rfl)) (de_and (de_not (de_isi z.b ist_bool (by rfl) e.fr_isinstance (de_var 0) (by rfl) e.fr_bool (by rfl))) (de_one ((dc_eq z.b (de_var 0) (de_var 1)).de _))))) dss_nil)))))), fun ds Kk h => r__law_is h⟩
theorem d__law_says (e : Fx P w K mg base T)  : Def P w K mg base T 3 "_law_says" S__law_says := by
  obtain ⟨f, fd, hm, F⟩ := e.fn__law_says
  refine def_mk F hm sc__law_says (fun_binds F fun _ _ _ _ _ _ us hl => match us, hl with | [_, _], _ => rfl) m__law_says l__law_says fun cdv A outer s H E EE gh hcd hK hmg hT z => ?_
  exact ⟨t__law_says EE, (dss_cons (ds_ret (de_ifExp (dt_tru z.hK (de_var 1)) ((dc_is (de_var 0) de_bl).de _) ((dc_is (de_var 0) de_bl).de _))) dss_nil), fun ds Kk h => r__law_says h⟩
theorem d__law_is_whole (e : Fx P w K mg base T)  : Def P w K mg base T 3 "_law_is_whole" S__law_is_whole := by
  obtain ⟨f, fd, hm, F⟩ := e.fn__law_is_whole
  refine def_mk F hm sc__law_is_whole (fun_binds F fun _ _ _ _ _ _ us hl => match us, hl with | [_], _ => rfl) m__law_is_whole l__law_is_whole fun cdv A outer s H E EE gh hcd hK hmg hT z => ?_
  exact ⟨t__law_is_whole EE, (dss_cons (ds_ret (de_and (de_isi z.b ist_int (by rfl) e.fr_isinstance (de_var 0) (by rfl) e.fr_int (by rfl)) (de_one (de_not (de_isi z.b ist_bool (by rfl) e.fr_isinstance (de_var 0) (by rfl) e.fr_bool (by rfl)))))) dss_nil), fun ds Kk h => r__law_is_whole h⟩
theorem d__law_wide (e : Fx P w K mg base T) (d__law_draw : Def P w K mg base T 3 "_law_draw" S__law_draw) : Def P w K mg base T 4 "_law_wide" S__law_wide := by
  obtain ⟨f, fd, hm, F⟩ := e.fn__law_wide
  refine def_mk F hm sc__law_wide (fun_binds F fun _ _ _ _ _ _ us hl => match us, hl with | [_, _], _ => rfl) m__law_wide l__law_wide fun cdv A outer s H E EE gh hcd hK hmg hT z => ?_
  exact ⟨t__law_wide EE, (dss_cons (ds_asg (de_tup (da_cons de_int (da_cons de_int da_nil))) (dg_tup z.toCz (dgs_cons (dg_name 2 z.b rfl (.inl rfl)) (dgs_cons (dg_name 3 z.b rfl (.inl rfl)) dgs_nil)))) (dss_cons (ds_forR z (by rfl) e.fr_range (de_fdiv (de_add z.hK (de_var 1) de_int) de_int) (dg_name 4 z.b rfl (.inl rfl)) (dss_cons (ds_set 2 z.b rfl (.inl rfl) (dv_of (de_add z.hK (de_mul (de_var 2) (de_pow de_int de_int)) (de_callT hT z.toCz d__law_draw (by decide) (by rfl) (da_cons (de_var 0) (da_cons (de_pow de_int de_int) da_nil)))))) dss_nil)) (dss_cons (ds_forR z (by rfl) e.fr_range (de_var 1) (dg_name 4 z.b rfl (.inl rfl)) (dss_cons (ds_set 3 z.b rfl (.inl rfl) (dv_of (de_mul (de_var 3) de_int))) dss_nil)) (dss_cons (ds_ret (de_mod (de_int1 (by rfl) e.fr_int (da_cons (de_var 2) da_nil)) (de_var 3))) dss_nil)))), fun ds Kk h => r__law_wide h⟩
theorem d__law_signed (e : Fx P w K mg base T) (d__law_draw : Def P w K mg base T 3 "_law_draw" S__law_draw) (d__law_wide : Def P w K mg base T 4 "_law_wide" S__law_wide) : Def P w K mg base T 5 "_law_signed" S__law_signed := by
  obtain ⟨f, fd, hm, F⟩ := e.fn__law_signed
  refine def_mk F hm sc__law_signed (fun_binds F fun _ _ _ _ _ _ us hl => match us, hl with | [_, _], _ => rfl) m__law_signed l__law_signed fun cdv A outer s H E EE gh hcd hK hmg hT z => ?_
  exact ⟨t__law_signed EE, (dss_cons (ds_ret (de_mul (de_sub de_int (de_mul de_int (de_callT hT z.toCz d__law_draw (by decide) (by rfl) (da_cons (de_var 0) (da_cons de_int da_nil))))) (de_callT hT z.toCz d__law_wide (by decide) (by rfl) (da_cons (de_var 0) (da_cons (de_var 1) da_nil))))) dss_nil), fun ds Kk h => r__law_signed h⟩
theorem d__law_kind (e : Fx P w K mg base T) (d__law_pick : Def P w K mg base T 4 "_law_pick" S__law_pick) : Def P w K mg base T 5 "_law_kind" S__law_kind := by
  obtain ⟨f, fd, hm, F⟩ := e.fn__law_kind
  refine def_mk F hm sc__law_kind (fun_binds F fun _ _ _ _ _ _ us hl => match us, hl with | [_], _ => rfl) m__law_kind l__law_kind fun cdv A outer s H E EE gh hcd hK hmg hT z => ?_
  exact ⟨t__law_kind EE, (dss_cons (ds_ret (de_callT hT z.toCz d__law_pick (by decide) (by rfl) (da_cons (de_var 0) (da_cons (de_lst (da_cons de_int (da_cons de_int da_nil))) da_nil)))) dss_nil), fun ds Kk h => r__law_kind h⟩
theorem d__law_norm (e : Fx P w K mg base T)  : Def P w K mg base T 3 "_law_norm" S__law_norm := by
  obtain ⟨f, fd, hm, F⟩ := e.fn__law_norm
  refine def_mk F hm sc__law_norm (fun_binds F fun _ _ _ _ _ _ us hl => match us, hl with | [_, _], _ => rfl) m__law_norm l__law_norm fun cdv A outer s H E EE gh hcd hK hmg hT z => ?_
  exact ⟨t__law_norm EE, (dss_cons (ds_asg (de_var 1) (dg_tup z.toCz (dgs_cons (dg_name 2 z.b rfl (.inl rfl)) (dgs_cons (dg_name 3 z.b rfl (.inl rfl)) dgs_nil)))) (dss_cons (ds_ret (de_ifExp ((dc_eq z.b (de_var 0) de_int).dt _) (de_add z.hK (de_mul (de_var 2) (de_var 2)) (de_mul (de_var 3) (de_var 3))) (de_add z.hK (de_sub (de_mul (de_var 2) (de_var 2)) (de_mul (de_var 2) (de_var 3))) (de_mul (de_var 3) (de_var 3))))) dss_nil)), fun ds Kk h => r__law_norm h⟩
theorem d__law_other (e : Fx P w K mg base T)  : Def P w K mg base T 3 "_law_other" S__law_other := by
  obtain ⟨f, fd, hm, F⟩ := e.fn__law_other
  refine def_mk F hm sc__law_other (fun_binds F fun _ _ _ _ _ _ us hl => match us, hl with | [_, _], _ => rfl) m__law_other l__law_other fun cdv A outer s H E EE gh hcd hK hmg hT z => ?_
  exact ⟨t__law_other EE, (dss_cons (ds_ret (de_ifExp ((dc_eq z.b (de_var 0) de_int).dt _) (de_tup (da_cons (de_ix z.b (de_var 1) de_int) (da_cons (de_sub de_int (de_ix z.b (de_var 1) de_int)) da_nil))) (de_tup (da_cons (de_sub (de_ix z.b (de_var 1) de_int) (de_ix z.b (de_var 1) de_int)) (da_cons (de_sub de_int (de_ix z.b (de_var 1) de_int)) da_nil))))) dss_nil), fun ds Kk h => r__law_other h⟩
theorem d__law_product (e : Fx P w K mg base T)  : Def P w K mg base T 3 "_law_product" S__law_product := by
  obtain ⟨f, fd, hm, F⟩ := e.fn__law_product
  refine def_mk F hm sc__law_product (fun_binds F fun _ _ _ _ _ _ us hl => match us, hl with | [_, _, _], _ => rfl) m__law_product l__law_product fun cdv A outer s H E EE gh hcd hK hmg hT z => ?_
  exact ⟨t__law_product EE, (dss_cons (ds_par3 3 4 5 z.toCz rfl rfl rfl (by decide) (by decide) (by decide) rfl rfl rfl (da_cons (de_mul (de_ix z.b (de_var 1) de_int) (de_ix z.b (de_var 2) de_int)) (da_cons (de_add z.hK (de_mul (de_ix z.b (de_var 1) de_int) (de_ix z.b (de_var 2) de_int)) (de_mul (de_ix z.b (de_var 1) de_int) (de_ix z.b (de_var 2) de_int))) (da_cons (de_mul (de_ix z.b (de_var 1) de_int) (de_ix z.b (de_var 2) de_int)) da_nil))) rfl) (dss_cons (ds_ret (de_ifExp ((dc_eq z.b (de_var 0) de_int).dt _) (de_tup (da_cons (de_sub (de_var 3) (de_var 5)) (da_cons (de_var 4) da_nil))) (de_tup (da_cons (de_sub (de_var 3) (de_var 5)) (da_cons (de_sub (de_var 4) (de_var 5)) da_nil))))) dss_nil)), fun ds Kk h => r__law_product h⟩
theorem d__law_less (e : Fx P w K mg base T)  : Def P w K mg base T 3 "_law_less" S__law_less := by
  obtain ⟨f, fd, hm, F⟩ := e.fn__law_less
  refine def_mk F hm sc__law_less (fun_binds F fun _ _ _ _ _ _ us hl => match us, hl with | [_, _], _ => rfl) m__law_less l__law_less fun cdv A outer s H E EE gh hcd hK hmg hT z => ?_
  exact ⟨t__law_less EE, (dss_cons (ds_ret (de_tup (da_cons (de_sub (de_ix z.b (de_var 0) de_int) (de_ix z.b (de_var 1) de_int)) (da_cons (de_sub (de_ix z.b (de_var 0) de_int) (de_ix z.b (de_var 1) de_int)) da_nil)))) dss_nil), fun ds Kk h => r__law_less h⟩
theorem d__law_goes (e : Fx P w K mg base T) (d__law_norm : Def P w K mg base T 3 "_law_norm" S__law_norm) (d__law_other : Def P w K mg base T 3 "_law_other" S__law_other) (d__law_product : Def P w K mg base T 3 "_law_product" S__law_product) : Def P w K mg base T 4 "_law_goes" S__law_goes := by
  obtain ⟨f, fd, hm, F⟩ := e.fn__law_goes
  refine def_mk F hm sc__law_goes (fun_binds F fun _ _ _ _ _ _ us hl => match us, hl with | [_, _, _], _ => rfl) m__law_goes l__law_goes fun cdv A outer s H E EE gh hcd hK hmg hT z => ?_
  exact ⟨t__law_goes EE, (dss_cons (ds_par 3 4 z.toCz rfl rfl (by decide) rfl rfl (da_cons (de_callT hT z.toCz d__law_product (by decide) (by rfl) (da_cons (de_var 0) (da_cons (de_var 2) (da_cons (de_callT hT z.toCz d__law_other (by decide) (by rfl) (da_cons (de_var 0) (da_cons (de_var 1) da_nil))) da_nil)))) (da_cons (de_callT hT z.toCz d__law_norm (by decide) (by rfl) (da_cons (de_var 0) (da_cons (de_var 1) da_nil))) da_nil)) rfl) (dss_cons (ds_ret (de_and ((dc_eq z.b (de_mod (de_int1 (by rfl) e.fr_int (da_cons (de_ix z.b (de_var 3) de_int) da_nil)) (de_var 4)) de_int).de _) (de_one ((dc_eq z.b (de_mod (de_int1 (by rfl) e.fr_int (da_cons (de_ix z.b (de_var 3) de_int) da_nil)) (de_var 4)) de_int).de _)))) dss_nil)), fun ds Kk h => r__law_goes h⟩
theorem d__law_over (e : Fx P w K mg base T) (d__law_norm : Def P w K mg base T 3 "_law_norm" S__law_norm) (d__law_other : Def P w K mg base T 3 "_law_other" S__law_other) (d__law_product : Def P w K mg base T 3 "_law_product" S__law_product) : Def P w K mg base T 4 "_law_over" S__law_over := by
  obtain ⟨f, fd, hm, F⟩ := e.fn__law_over
  refine def_mk F hm sc__law_over (fun_binds F fun _ _ _ _ _ _ us hl => match us, hl with | [_, _, _], _ => rfl) m__law_over l__law_over fun cdv A outer s H E EE gh hcd hK hmg hT z => ?_
  exact ⟨t__law_over EE, (dss_cons (ds_par 3 4 z.toCz rfl rfl (by decide) rfl rfl (da_cons (de_callT hT z.toCz d__law_product (by decide) (by rfl) (da_cons (de_var 0) (da_cons (de_var 1) (da_cons (de_callT hT z.toCz d__law_other (by decide) (by rfl) (da_cons (de_var 0) (da_cons (de_var 2) da_nil))) da_nil)))) (da_cons (de_callT hT z.toCz d__law_norm (by decide) (by rfl) (da_cons (de_var 0) (da_cons (de_var 2) da_nil))) da_nil)) rfl) (dss_cons (ds_ret (de_tup (da_cons (de_fdiv (de_ix z.b (de_var 3) de_int) (de_var 4)) (da_cons (de_fdiv (de_ix z.b (de_var 3) de_int) (de_var 4)) da_nil)))) dss_nil)), fun ds Kk h => r__law_over h⟩
theorem d__law_units (e : Fx P w K mg base T)  : Def P w K mg base T 3 "_law_units" S__law_units := by
  obtain ⟨f, fd, hm, F⟩ := e.fn__law_units
  refine def_mk F hm sc__law_units (fun_binds F fun _ _ _ _ _ _ us hl => match us, hl with | [_], _ => rfl) m__law_units l__law_units fun cdv A outer s H E EE gh hcd hK hmg hT z => ?_
  exact ⟨t__law_units EE, (dss_cons (ds_ret (de_ifExp ((dc_eq z.b (de_var 0) de_int).dt _) (de_tup (da_cons (de_tup (da_cons de_int (da_cons de_int da_nil))) (da_cons (de_tup (da_cons de_int (da_cons de_int da_nil))) (da_cons (de_tup (da_cons (de_neg de_int) (da_cons de_int da_nil))) (da_cons (de_tup (da_cons de_int (da_cons (de_neg de_int) da_nil))) da_nil))))) (de_tup (da_cons (de_tup (da_cons de_int (da_cons de_int da_nil))) (da_cons (de_tup (da_cons de_int (da_cons de_int da_nil))) (da_cons (de_tup (da_cons de_int (da_cons de_int da_nil))) (da_cons (de_tup (da_cons (de_neg de_int) (da_cons de_int da_nil))) (da_cons (de_tup (da_cons (de_neg de_int) (da_cons (de_neg de_int) da_nil))) (da_cons (de_tup (da_cons de_int (da_cons (de_neg de_int) da_nil))) da_nil))))))))) dss_nil), fun ds Kk h => r__law_units h⟩
theorem d__law_even (e : Fx P w K mg base T)  : Def P w K mg base T 3 "_law_even" S__law_even := by
  obtain ⟨f, fd, hm, F⟩ := e.fn__law_even
  refine def_mk F hm sc__law_even (fun_binds F fun _ _ _ _ _ _ us hl => match us, hl with | [_], _ => rfl) m__law_even l__law_even fun cdv A outer s H E EE gh hcd hK hmg hT z => ?_
  exact ⟨t__law_even EE, (dss_cons (ds_ret (de_ifExp ((dc_eq z.b (de_var 0) de_int).dt _) (de_tup (da_cons de_int (da_cons de_int da_nil))) (de_tup (da_cons de_int (da_cons (de_neg de_int) da_nil))))) dss_nil), fun ds Kk h => r__law_even h⟩
theorem d__law_is_primary (e : Fx P w K mg base T)  : Def P w K mg base T 3 "_law_is_primary" S__law_is_primary := by
  obtain ⟨f, fd, hm, F⟩ := e.fn__law_is_primary
  refine def_mk F hm sc__law_is_primary (fun_binds F fun _ _ _ _ _ _ us hl => match us, hl with | [_, _], _ => rfl) m__law_is_primary l__law_is_primary fun cdv A outer s H E EE gh hcd hK hmg hT z => ?_
  exact ⟨t__law_is_primary EE, (dss_cons (ds_if ((dc_eq z.b (de_var 0) de_int).dt _) (dss_cons (ds_ret (de_and ((dc_eq z.b (de_mod (de_int1 (by rfl) e.fr_int (da_cons (de_ix z.b (de_var 1) de_int) da_nil)) de_int) de_int).de _) (de_and ((dc_eq z.b (de_mod (de_int1 (by rfl) e.fr_int (da_cons (de_ix z.b (de_var 1) de_int) da_nil)) de_int) de_int).de _) (de_one ((dc_eq z.b (de_mod (de_int1 (by rfl) e.fr_int (da_cons (de_add z.hK (de_ix z.b (de_var 1) de_int) (de_ix z.b (de_var 1) de_int)) da_nil)) de_int) de_int).de _))))) dss_nil) dss_nil) (dss_cons (ds_ret (de_and ((dc_eq z.b (de_mod (de_int1 (by rfl) e.fr_int (da_cons (de_ix z.b (de_var 1) de_int) da_nil)) de_int) de_int).de _) (de_one ((dc_eq z.b (de_mod (de_int1 (by rfl) e.fr_int (da_cons (de_ix z.b (de_var 1) de_int) da_nil)) de_int) de_int).de _)))) dss_nil)), fun ds Kk h => r__law_is_primary h⟩
theorem d__law_primary_one (e : Fx P w K mg base T) (d__law_is_primary : Def P w K mg base T 3 "_law_is_primary" S__law_is_primary) (d__law_product : Def P w K mg base T 3 "_law_product" S__law_product) (d__law_units : Def P w K mg base T 3 "_law_units" S__law_units) : Def P w K mg base T 4 "_law_primary_one" S__law_primary_one := by
  obtain ⟨f, fd, hm, F⟩ := e.fn__law_primary_one
  refine def_mk F hm sc__law_primary_one (fun_binds F fun _ _ _ _ _ _ us hl => match us, hl with | [_, _], _ => rfl) m__law_primary_one l__law_primary_one fun cdv A outer s H E EE gh hcd hK hmg hT z => ?_
  exact ⟨t__law_primary_one EE, (dss_cons (ds_setLc (own := [("unit", 3)]) 2 z.toCz rfl rfl (di_seq z.toCz (de_callT hT z.toCz d__law_units (by decide) (by rfl) (da_cons (de_var 0) da_nil))) (blkOk_by (N := ["kind", "x", "some", "unit", "one"]) (sc := defScope st__law_primary_one) (by decide +kernel)) ⟨fun s H C cl fp g' gi zc => ⟨(dgv_name 3 zc.b (by decide) rfl (by first | exact Or.inl rfl | exact Or.inr rfl)), dts_nil, (de_callT (gi.2.2.trans hT) zc d__law_product (by decide) (by rfl) (da_cons (de_var 0) (da_cons (de_var 1) (da_cons (de_var 3) da_nil))))⟩⟩ rfl) (dss_rel 2 (dss_cons (ds_setLc (own := [("one", 4)]) 2 z.toCz rfl rfl (di_seq z.toCz (de_var 2)) (blkOk_by (N := ["kind", "x", "some", "unit", "one"]) (sc := defScope st__law_primary_one) (by decide +kernel)) ⟨fun s H C cl fp g' gi zc => ⟨(dgv_name 4 zc.b (by decide) rfl (by first | exact Or.inl rfl | exact Or.inr rfl)), (dts_one (dt_tru zc.hK (de_callT (gi.2.2.trans hT) zc d__law_is_primary (by decide) (by rfl) (da_cons (de_var 0) (da_cons (de_var 4) da_nil))))), (de_var 4)⟩⟩ rfl) (dss_rel 2 (dss_cons (ds_ret (de_ifExp ((dc_ne z.b (de_var 2) (de_lst da_nil)).dt _) (de_ix z.b (de_var 2) de_int) de_non)) dss_nil))))), fun ds Kk h => r__law_primary_one h⟩
theorem d__law_letters (e : Fx P w K mg base T) (d__law_signed : Def P w K mg base T 5 "_law_signed" S__law_signed) : Def P w K mg base T 6 "_law_letters" S__law_letters := by
  obtain ⟨f, fd, hm, F⟩ := e.fn__law_letters
  refine def_mk F hm sc__law_letters (fun_binds F fun _ _ _ _ _ _ us hl => match us, hl with | [_, _], _ => rfl) m__law_letters l__law_letters fun cdv A outer s H E EE gh hcd hK hmg hT z => ?_
  exact ⟨t__law_letters EE, (dss_cons (ds_ret (de_tup (da_cons (de_callT hT z.toCz d__law_signed (by decide) (by rfl) (da_cons (de_var 0) (da_cons (de_var 1) da_nil))) (da_cons (de_callT hT z.toCz d__law_signed (by decide) (by rfl) (da_cons (de_var 0) (da_cons (de_var 1) da_nil))) da_nil)))) dss_nil), fun ds Kk h => r__law_letters h⟩
theorem d__law_some_letters (e : Fx P w K mg base T) (d__law_letters : Def P w K mg base T 6 "_law_letters" S__law_letters) (d__law_pick : Def P w K mg base T 4 "_law_pick" S__law_pick) : Def P w K mg base T 7 "_law_some_letters" S__law_some_letters := by
  obtain ⟨f, fd, hm, F⟩ := e.fn__law_some_letters
  refine def_mk F hm sc__law_some_letters (fun_binds F fun _ _ _ _ _ _ us hl => match us, hl with | [_], _ => rfl) m__law_some_letters l__law_some_letters fun cdv A outer s H E EE gh hcd hK hmg hT z => ?_
  exact ⟨t__law_some_letters EE, (dss_cons (ds_set 1 z.b rfl (.inl rfl) (dv_of (de_callT hT z.toCz d__law_letters (by decide) (by rfl) (da_cons (de_var 0) (da_cons (de_callT hT z.toCz d__law_pick (by decide) (by rfl) (da_cons (de_var 0) (da_cons (de_lst (da_cons de_int (da_cons de_int (da_cons de_int (da_cons de_int da_nil))))) da_nil))) da_nil))))) (dss_cons (ds_set 1 z.b rfl (.inl rfl) (dv_of (de_callT hT z.toCz d__law_pick (by decide) (by rfl) (da_cons (de_var 0) (da_cons (de_lst (da_cons (de_var 1) (da_cons (de_var 1) (da_cons (de_tup (da_cons (de_ix z.b (de_var 1) de_int) (da_cons de_int da_nil))) (da_cons (de_tup (da_cons de_int (da_cons (de_ix z.b (de_var 1) de_int) da_nil))) da_nil))))) da_nil))))) (dss_cons (ds_ret (de_ifExp ((dc_ne z.b (de_var 1) (de_tup (da_cons de_int (da_cons de_int da_nil)))).dt _) (de_var 1) (de_tup (da_cons de_int (da_cons de_int da_nil))))) dss_nil))), fun ds Kk h => r__law_some_letters h⟩
theorem d__law_primary (e : Fx P w K mg base T) (d__law_letters : Def P w K mg base T 6 "_law_letters" S__law_letters) : Def P w K mg base T 7 "_law_primary" S__law_primary := by
  obtain ⟨f, fd, hm, F⟩ := e.fn__law_primary
  refine def_mk F hm sc__law_primary (fun_binds F fun _ _ _ _ _ _ us hl => match us, hl with | [_, _, _], _ => rfl) m__law_primary l__law_primary fun cdv A outer s H E EE gh hcd hK hmg hT z => ?_
  exact ⟨t__law_primary EE, (dss_cons (ds_asg (de_callT hT z.toCz d__law_letters (by decide) (by rfl) (da_cons (de_var 0) (da_cons (de_var 2) da_nil))) (dg_tup z.toCz (dgs_cons (dg_name 3 z.b rfl (.inl rfl)) (dgs_cons (dg_name 4 z.b rfl (.inl rfl)) dgs_nil)))) (dss_cons (ds_if ((dc_eq z.b (de_var 1) de_int).dt _) (dss_cons (ds_ret (de_tup (da_cons (de_add z.hK (de_mul de_int (de_var 3)) de_int) (da_cons (de_mul de_int (de_var 4)) da_nil)))) dss_nil) dss_nil) (dss_cons (ds_par 3 4 z.toCz rfl rfl (by decide) rfl rfl (da_cons (de_add z.hK (de_mul de_int (de_var 3)) de_int) (da_cons (de_mul de_int (de_var 4)) da_nil)) rfl) (dss_cons (ds_ret (de_ifExp ((dc_eq z.b (de_mod (de_int1 (by rfl) e.fr_int (da_cons (de_add z.hK (de_var 3) (de_var 4)) da_nil)) de_int) de_int).dt _) (de_tup (da_cons (de_var 3) (da_cons (de_var 4) da_nil))) (de_ifExp ((dc_eq z.b (de_mod (de_int1 (by rfl) e.fr_int (da_cons (de_sub (de_sub de_int (de_var 3)) (de_var 4)) da_nil)) de_int) de_int).dt _) (de_tup (da_cons (de_sub de_int (de_var 3)) (da_cons (de_sub de_int (de_var 4)) da_nil))) (de_tup (da_cons (de_var 3) (da_cons (de_add z.hK (de_var 4) de_int) da_nil)))))) dss_nil)))), fun ds Kk h => r__law_primary h⟩
theorem d__law_bad_letters (e : Fx P w K mg base T) (d__law_pick : Def P w K mg base T 4 "_law_pick" S__law_pick) : Def P w K mg base T 5 "_law_bad_letters" S__law_bad_letters := by
  obtain ⟨f, fd, hm, F⟩ := e.fn__law_bad_letters
  refine def_mk F hm sc__law_bad_letters (fun_binds F fun _ _ _ _ _ _ us hl => match us, hl with | [_], _ => rfl) m__law_bad_letters l__law_bad_letters fun cdv A outer s H E EE gh hcd hK hmg hT z => ?_
  exact ⟨t__law_bad_letters EE, (dss_cons (ds_ret (de_callT hT z.toCz d__law_pick (by decide) (by rfl) (da_cons (de_var 0) (da_cons (de_lst (da_cons de_non (da_cons de_int (da_cons de_str (da_cons de_bl (da_cons (de_tup da_nil) (da_cons (de_tup (da_cons de_int da_nil)) (da_cons (de_tup (da_cons de_int (da_cons de_int (da_cons de_int da_nil)))) (da_cons (de_tup (da_cons de_bl (da_cons de_int da_nil))) (da_cons (de_tup (da_cons de_int (da_cons de_str da_nil))) (da_cons (de_ofV dv_dnew) (da_cons (de_tup (da_cons (de_add z.hK (de_pow de_int de_int) de_int) (da_cons de_int da_nil))) (da_cons (de_tup (da_cons de_int (da_cons (de_sub (de_sub de_int (de_pow de_int de_int)) de_int) da_nil))) (da_cons (de_tup (da_cons de_non (da_cons de_int da_nil))) (da_cons (de_lst (da_cons de_int da_nil)) da_nil))))))))))))))) da_nil)))) dss_nil), fun ds Kk h => r__law_bad_letters h⟩
theorem d__law_bad_kind (e : Fx P w K mg base T) (d__law_pick : Def P w K mg base T 4 "_law_pick" S__law_pick) : Def P w K mg base T 5 "_law_bad_kind" S__law_bad_kind := by
  obtain ⟨f, fd, hm, F⟩ := e.fn__law_bad_kind
  refine def_mk F hm sc__law_bad_kind (fun_binds F fun _ _ _ _ _ _ us hl => match us, hl with | [_], _ => rfl) m__law_bad_kind l__law_bad_kind fun cdv A outer s H E EE gh hcd hK hmg hT z => ?_
  exact ⟨t__law_bad_kind EE, (dss_cons (ds_ret (de_callT hT z.toCz d__law_pick (by decide) (by rfl) (da_cons (de_var 0) (da_cons (de_lst (da_cons de_int (da_cons de_int (da_cons de_int (da_cons (de_neg de_int) (da_cons de_non (da_cons de_bl (da_cons de_str (da_cons (de_tup (da_cons de_int da_nil)) (da_cons de_int (da_cons de_int da_nil))))))))))) da_nil)))) dss_nil), fun ds Kk h => r__law_bad_kind h⟩
theorem d__law_right (e : Fx P w K mg base T) (d__law_common_right : Def P w K mg base T 10 "_law_common_right" S__law_common_right) (d__law_draw : Def P w K mg base T 3 "_law_draw" S__law_draw) (d__law_even : Def P w K mg base T 3 "_law_even" S__law_even) (d__law_goes : Def P w K mg base T 4 "_law_goes" S__law_goes) (d__law_is : Def P w K mg base T 7 "_law_is" (S__law_is RN__law_is)) (d__law_is_primary : Def P w K mg base T 3 "_law_is_primary" S__law_is_primary) (d__law_is_whole : Def P w K mg base T 3 "_law_is_whole" S__law_is_whole) (d__law_letters : Def P w K mg base T 6 "_law_letters" S__law_letters) (d__law_other : Def P w K mg base T 3 "_law_other" S__law_other) (d__law_over : Def P w K mg base T 4 "_law_over" S__law_over) (d__law_pick : Def P w K mg base T 4 "_law_pick" S__law_pick) (d__law_primary : Def P w K mg base T 7 "_law_primary" S__law_primary) (d__law_primary_one : Def P w K mg base T 4 "_law_primary_one" S__law_primary_one) (d__law_product : Def P w K mg base T 3 "_law_product" S__law_product) (d__law_says : Def P w K mg base T 3 "_law_says" S__law_says) (d__law_two : Def P w K mg base T 12 "_law_two" S__law_two) (d__law_units : Def P w K mg base T 3 "_law_units" S__law_units) (d_is_primary : Def P w K mg base T 6 "is_primary" S_is_primary) (d_primary_of : Def P w K mg base T 8 "primary_of" S_primary_of) : Def P w K mg base T 13 "_law_right" S__law_right := by
  obtain ⟨f, fd, hm, F⟩ := e.fn__law_right
  obtain ⟨a_primary_of, fd_primary_of, mg_primary_of, F_primary_of⟩ := e.fn_primary_of
  refine def_mk F hm sc__law_right (fun_binds F fun _ _ _ _ _ _ us hl => match us, hl with | [_, _], _ => rfl) m__law_right l__law_right fun cdv A outer s H E EE gh hcd hK hmg hT z => ?_
  exact ⟨t__law_right EE, (dss_cons (ds_set 2 z.b rfl (.inl rfl) (dv_of (de_callT hT z.toCz d__law_letters (by decide) (by rfl) (da_cons (de_var 0) (da_cons (de_callT hT z.toCz d__law_pick (by decide) (by rfl) (da_cons (de_var 0) (da_cons (de_lst (da_cons de_int (da_cons de_int (da_cons de_int (da_cons de_int da_nil))))) da_nil))) da_nil))))) (dss_cons (ds_forR z (by rfl) e.fr_range (de_callT hT z.toCz d__law_draw (by decide) (by rfl) (da_cons (de_var 0) (da_cons de_int da_nil))) (dg_name 3 z.b rfl (.inl rfl)) (dss_cons (ds_set 2 z.b rfl (.inl rfl) (dv_of (de_callT hT z.toCz d__law_product (by decide) (by rfl) (da_cons (de_var 1) (da_cons (de_var 2) (da_cons (de_callT hT z.toCz d__law_even (by decide) (by rfl) (da_cons (de_var 1) da_nil)) da_nil)))))) dss_nil)) (dss_cons (ds_set 4 z.b rfl (.inl rfl) (dv_of (de_ifExp ((dc_eq z.b (de_callT hT z.toCz d__law_draw (by decide) (by rfl) (da_cons (de_var 0) (da_cons de_int da_nil))) de_int).dt _) (de_list z.b (by rfl) e.fr_list (da_cons (de_var 2) da_nil)) (de_var 2)))) (dss_cons (ds_if (dt_not (dt_tru z.hK (de_callT hT z.toCz d__law_says (by decide) (by rfl) (da_cons (de_callT hT z.toCz d_is_primary (by decide) (by rfl) (da_cons (de_var 1) (da_cons (de_var 4) da_nil))) (da_cons (de_callT hT z.toCz d__law_is_primary (by decide) (by rfl) (da_cons (de_var 1) (da_cons (de_var 2) da_nil))) da_nil))))) (dss_cons (ds_ret de_bl) dss_nil) dss_nil) (dss_cons (ds_if ((dc_eq z.b (de_var 2) (de_tup (da_cons de_int (da_cons de_int da_nil)))).dt _) (dss_cons (ds_ret ((dc_eq z.b (de_callT hT z.toCz d__law_two (by decide) (by rfl) (da_cons (de_fn (by rfl) mg_primary_of z.hmg) (da_cons (de_var 1) (da_cons (de_var 2) da_nil)))) (de_tup (da_cons de_str (da_cons de_str da_nil)))).de _)) dss_nil) dss_nil) (dss_cons (ds_set 5 z.b rfl (.inl rfl) (dv_of (de_callT hT z.toCz d_primary_of (by decide) (by rfl) (da_cons (de_var 1) (da_cons (de_var 4) da_nil))))) (dss_cons (ds_if (dw_or (dt_not (dt_tru z.hK (de_isi z.b ist_tup (by rfl) e.fr_isinstance (de_var 5) (by rfl) e.fr_tuple (by rfl)))) (dw_or ((dc_ne z.b (de_len z.b (by rfl) e.fr_len (da_cons (de_var 5) da_nil)) de_int).dt _) (dw_or (dt_not (dt_tru z.hK (de_callT hT z.toCz d__law_is_whole (by decide) (by rfl) (da_cons (de_ix z.b (de_var 5) de_int) da_nil)))) (dw_or1 (dt_not (dt_tru z.hK (de_callT hT z.toCz d__law_is_whole (by decide) (by rfl) (da_cons (de_ix z.b (de_var 5) de_int) da_nil)))))))).dt (dss_cons (ds_ret de_bl) dss_nil) dss_nil) (dss_cons (ds_asg (de_var 5) (dg_tup z.toCz (dgs_cons (dg_name 6 z.b rfl (.inl rfl)) (dgs_cons (dg_name 7 z.b rfl (.inl rfl)) (dgs_cons (dg_name 8 z.b rfl (.inl rfl)) dgs_nil))))) (dss_cons (ds_par 9 10 z.toCz rfl rfl (by decide) rfl rfl (da_cons (de_var 2) (da_cons de_int da_nil)) rfl) (dss_cons (ds_while z (dt_tru z.hK (de_callT hT z.toCz d__law_goes (by decide) (by rfl) (da_cons (de_var 1) (da_cons (de_callT hT z.toCz d__law_even (by decide) (by rfl) (da_cons (de_var 1) da_nil)) (da_cons (de_var 9) da_nil))))) (dss_cons (ds_par 9 10 z.toCz rfl rfl (by decide) rfl rfl (da_cons (de_callT hT z.toCz d__law_over (by decide) (by rfl) (da_cons (de_var 1) (da_cons (de_var 9) (da_cons (de_callT hT z.toCz d__law_even (by decide) (by rfl) (da_cons (de_var 1) da_nil)) da_nil)))) (da_cons (de_add z.hK (de_var 10) de_int) da_nil)) rfl) dss_nil)) (dss_cons (ds_if (dw_or ((dc_ne z.b (de_var 6) (de_var 10)).dt _) (dw_or (dt_not ((dc_leLt de_int (de_var 7) (de_len z.b (by rfl) e.fr_len (da_cons (de_callT hT z.toCz d__law_units (by decide) (by rfl) (da_cons (de_var 1) da_nil)) da_nil))).dt _)) (dw_or1 (dt_not (dt_tru z.hK (de_callT hT z.toCz d__law_is (by decide) (by rfl) (da_cons (de_var 8) (da_cons (de_callT hT z.toCz d__law_primary_one (by decide) (by rfl) (da_cons (de_var 1) (da_cons (de_var 9) da_nil))) da_nil)))))))).dt (dss_cons (ds_ret de_bl) dss_nil) dss_nil) (dss_cons (ds_if ((dc_ne z.b (de_callT hT z.toCz d__law_product (by decide) (by rfl) (da_cons (de_var 1) (da_cons (de_ix z.b (de_callT hT z.toCz d__law_units (by decide) (by rfl) (da_cons (de_var 1) da_nil)) (de_var 7)) (da_cons (de_var 8) da_nil)))) (de_var 9)).dt _) (dss_cons (ds_ret de_bl) dss_nil) dss_nil) (dss_cons (ds_par 11 12 z.toCz rfl rfl (by decide) rfl rfl (da_cons (de_callT hT z.toCz d__law_primary (by decide) (by rfl) (da_cons (de_var 0) (da_cons (de_var 1) (da_cons de_int da_nil)))) (da_cons (de_callT hT z.toCz d__law_primary (by decide) (by rfl) (da_cons (de_var 0) (da_cons (de_var 1) (da_cons de_int da_nil)))) da_nil)) rfl) (dss_cons (ds_set 13 z.b rfl (.inl rfl) (dv_of (de_tup (da_cons (de_callT hT z.toCz d__law_product (by decide) (by rfl) (da_cons (de_var 1) (da_cons (de_var 11) (da_cons (de_var 12) da_nil)))) (da_cons (de_callT hT z.toCz d__law_other (by decide) (by rfl) (da_cons (de_var 1) (da_cons (de_var 11) da_nil))) (da_cons (de_var 11) da_nil)))))) (dss_cons (ds_ret (de_and ((dc_eq z.b (de_ofV (dv_lc (own := [("number", 14)]) z.toCz (di_seq z.toCz (de_var 13)) (blkOk_by (N := ["pen", "kind", "x", "lap", "handed", "told", "even", "unit", "primary", "left", "count", "one", "other", "some", "number"]) (sc := defScope st__law_right) (by decide +kernel)) ⟨fun s H C cl fp g' gi zc => ⟨(dgv_name 14 zc.b (by decide) rfl (by first | exact Or.inl rfl | exact Or.inr rfl)), dts_nil, (de_callT (gi.2.2.trans hT) zc d_is_primary (by decide) (by rfl) (da_cons (de_var 1) (da_cons (de_var 14) da_nil)))⟩⟩)) (de_mul (de_lst (da_cons de_bl da_nil)) de_int)).de _) (de_one (de_callT hT z.toCz d__law_common_right (by decide) (by rfl) (da_cons (de_var 0) (da_cons (de_var 1) da_nil)))))) dss_nil))))))))))))))), fun ds Kk h => r__law_right h⟩
theorem d__law_common_right (e : Fx P w K mg base T) (d__law_draw : Def P w K mg base T 3 "_law_draw" S__law_draw) (d__law_even : Def P w K mg base T 3 "_law_even" S__law_even) (d__law_even_power : Def P w K mg base T 4 "_law_even_power" S__law_even_power) (d__law_goes : Def P w K mg base T 4 "_law_goes" S__law_goes) (d__law_is : Def P w K mg base T 7 "_law_is" (S__law_is RN__law_is)) (d__law_is_primary : Def P w K mg base T 3 "_law_is_primary" S__law_is_primary) (d__law_letters : Def P w K mg base T 6 "_law_letters" S__law_letters) (d__law_norm : Def P w K mg base T 3 "_law_norm" S__law_norm) (d__law_over : Def P w K mg base T 4 "_law_over" S__law_over) (d__law_pick : Def P w K mg base T 4 "_law_pick" S__law_pick) (d__law_product : Def P w K mg base T 3 "_law_product" S__law_product) (d__law_rest : Def P w K mg base T 4 "_law_rest" S__law_rest) (d__law_some_letters : Def P w K mg base T 7 "_law_some_letters" S__law_some_letters) (d_common_part : Def P w K mg base T 9 "common_part" S_common_part) : Def P w K mg base T 10 "_law_common_right" S__law_common_right := by
  obtain ⟨f, fd, hm, F⟩ := e.fn__law_common_right
  refine def_mk F hm sc__law_common_right (fun_binds F fun _ _ _ _ _ _ us hl => match us, hl with | [_, _], _ => rfl) m__law_common_right l__law_common_right fun cdv A outer s H E EE gh hcd hK hmg hT z => ?_
  exact ⟨t__law_common_right EE, (dss_cons (ds_par3 2 3 4 z.toCz rfl rfl rfl (by decide) (by decide) (by decide) rfl rfl rfl (da_cons (de_callT hT z.toCz d__law_some_letters (by decide) (by rfl) (da_cons (de_var 0) da_nil)) (da_cons (de_callT hT z.toCz d__law_letters (by decide) (by rfl) (da_cons (de_var 0) (da_cons (de_callT hT z.toCz d__law_pick (by decide) (by rfl) (da_cons (de_var 0) (da_cons (de_lst (da_cons de_int (da_cons de_int (da_cons de_int (da_cons de_int da_nil))))) da_nil))) da_nil))) (da_cons (de_callT hT z.toCz d__law_letters (by decide) (by rfl) (da_cons (de_var 0) (da_cons (de_callT hT z.toCz d__law_pick (by decide) (by rfl) (da_cons (de_var 0) (da_cons (de_lst (da_cons de_int (da_cons de_int (da_cons de_int da_nil)))) da_nil))) da_nil))) da_nil))) rfl) (dss_cons (ds_par 5 6 z.toCz rfl rfl (by decide) rfl rfl (da_cons (de_callT hT z.toCz d__law_product (by decide) (by rfl) (da_cons (de_var 1) (da_cons (de_var 2) (da_cons (de_var 3) da_nil)))) (da_cons (de_callT hT z.toCz d__law_product (by decide) (by rfl) (da_cons (de_var 1) (da_cons (de_var 2) (da_cons (de_var 4) da_nil)))) da_nil)) rfl) (dss_cons (ds_if ((dc_eq z.b (de_callT hT z.toCz d__law_draw (by decide) (by rfl) (da_cons (de_var 0) (da_cons de_int da_nil))) de_int).dt _) (dss_cons (ds_set 5 z.b rfl (.inl rfl) (dv_of (de_var 6))) dss_nil) dss_nil) (dss_cons (ds_set 7 z.b rfl (.inl rfl) (dv_of (de_callT hT z.toCz d_common_part (by decide) (by rfl) (da_cons (de_var 1) (da_cons (de_var 5) (da_cons (de_list z.b (by rfl) e.fr_list (da_cons (de_var 6) da_nil)) da_nil)))))) (dss_cons (ds_if (dw_and ((dc_eq z.b (de_var 5) (de_tup (da_cons de_int (da_cons de_int da_nil)))).dt _) (dw_and1 ((dc_eq z.b (de_var 6) (de_tup (da_cons de_int (da_cons de_int da_nil)))).dt _))).dt (dss_cons (ds_ret (de_callT hT z.toCz d__law_is (by decide) (by rfl) (da_cons (de_var 7) (da_cons (de_tup (da_cons de_int (da_cons de_int da_nil))) da_nil)))) dss_nil) dss_nil) (dss_cons (ds_if (dw_or (dt_not (dt_tru z.hK (de_isi z.b ist_tup (by rfl) e.fr_isinstance (de_var 7) (by rfl) e.fr_tuple (by rfl)))) (dw_or ((dc_ne z.b (de_len z.b (by rfl) e.fr_len (da_cons (de_var 7) da_nil)) de_int).dt _) (dw_or ((dc_eq z.b (de_var 7) (de_tup (da_cons de_int (da_cons de_int da_nil)))).dt _) (dw_or (dt_not (dt_tru z.hK (de_callT hT z.toCz d__law_goes (by decide) (by rfl) (da_cons (de_var 1) (da_cons (de_var 7) (da_cons (de_var 5) da_nil)))))) (dw_or (dt_not (dt_tru z.hK (de_callT hT z.toCz d__law_goes (by decide) (by rfl) (da_cons (de_var 1) (da_cons (de_var 7) (da_cons (de_var 6) da_nil)))))) (dw_or1 (dt_not (dt_tru z.hK (de_callT hT z.toCz d__law_goes (by decide) (by rfl) (da_cons (de_var 1) (da_cons (de_var 2) (da_cons (de_var 7) da_nil)))))))))))).dt (dss_cons (ds_ret de_bl) dss_nil) dss_nil) (dss_cons (ds_set 8 z.b rfl (.inl rfl) (dv_of (de_var 7))) (dss_cons (ds_while z (dt_tru z.hK (de_callT hT z.toCz d__law_goes (by decide) (by rfl) (da_cons (de_var 1) (da_cons (de_callT hT z.toCz d__law_even (by decide) (by rfl) (da_cons (de_var 1) da_nil)) (da_cons (de_var 8) da_nil))))) (dss_cons (ds_set 8 z.b rfl (.inl rfl) (dv_of (de_callT hT z.toCz d__law_over (by decide) (by rfl) (da_cons (de_var 1) (da_cons (de_var 8) (da_cons (de_callT hT z.toCz d__law_even (by decide) (by rfl) (da_cons (de_var 1) da_nil)) da_nil)))))) dss_nil)) (dss_cons (ds_if (dw_or (dt_not (dt_tru z.hK (de_callT hT z.toCz d__law_is_primary (by decide) (by rfl) (da_cons (de_var 1) (da_cons (de_var 8) da_nil))))) (dw_or1 (dt_not (dt_tru z.hK (de_callT hT z.toCz d__law_even_power (by decide) (by rfl) (da_cons (de_var 1) (da_cons (de_var 7) (da_cons (de_var 8) da_nil)))))))).dt (dss_cons (ds_ret de_bl) dss_nil) dss_nil) (dss_cons (ds_par 9 10 z.toCz rfl rfl (by decide) rfl rfl (da_cons (de_callT hT z.toCz d__law_over (by decide) (by rfl) (da_cons (de_var 1) (da_cons (de_var 5) (da_cons (de_var 7) da_nil)))) (da_cons (de_callT hT z.toCz d__law_over (by decide) (by rfl) (da_cons (de_var 1) (da_cons (de_var 6) (da_cons (de_var 7) da_nil)))) da_nil)) rfl) (dss_cons (ds_forR z (by rfl) e.fr_range de_int (dg_name 11 z.b rfl (.inl rfl)) (dss_cons (ds_if ((dc_ne z.b (de_var 10) (de_tup (da_cons de_int (da_cons de_int da_nil)))).dt _) (dss_cons (ds_par 9 10 z.toCz rfl rfl (by decide) rfl rfl (da_cons (de_var 10) (da_cons (de_callT hT z.toCz d__law_rest (by decide) (by rfl) (da_cons (de_var 1) (da_cons (de_var 9) (da_cons (de_var 10) da_nil)))) da_nil)) rfl) dss_nil) dss_nil) dss_nil)) (dss_cons (ds_ret ((dc_eq z.b (de_callT hT z.toCz d__law_norm (by decide) (by rfl) (da_cons (de_var 1) (da_cons (de_var 9) da_nil))) de_int).de _)) dss_nil)))))))))))), fun ds Kk h => r__law_common_right h⟩
theorem d__law_even_power (e : Fx P w K mg base T) (d__law_even : Def P w K mg base T 3 "_law_even" S__law_even) (d__law_product : Def P w K mg base T 3 "_law_product" S__law_product) : Def P w K mg base T 4 "_law_even_power" S__law_even_power := by
  obtain ⟨f, fd, hm, F⟩ := e.fn__law_even_power
  refine def_mk F hm sc__law_even_power (fun_binds F fun _ _ _ _ _ _ us hl => match us, hl with | [_, _, _], _ => rfl) m__law_even_power l__law_even_power fun cdv A outer s H E EE gh hcd hK hmg hT z => ?_
  exact ⟨t__law_even_power EE, (dss_cons (ds_set 3 z.b rfl (.inl rfl) (dv_of (de_var 2))) (dss_cons (ds_forR z (by rfl) e.fr_range de_int (dg_name 4 z.b rfl (.inl rfl)) (dss_cons (ds_if ((dc_eq z.b (de_var 3) (de_var 1)).dt _) (dss_cons (ds_ret de_bl) dss_nil) dss_nil) (dss_cons (ds_set 3 z.b rfl (.inl rfl) (dv_of (de_callT hT z.toCz d__law_product (by decide) (by rfl) (da_cons (de_var 0) (da_cons (de_var 3) (da_cons (de_callT hT z.toCz d__law_even (by decide) (by rfl) (da_cons (de_var 0) da_nil)) da_nil)))))) dss_nil))) (dss_cons (ds_ret de_bl) dss_nil))), fun ds Kk h => r__law_even_power h⟩
theorem d__law_rest (e : Fx P w K mg base T) (d__law_less : Def P w K mg base T 3 "_law_less" S__law_less) (d__law_norm : Def P w K mg base T 3 "_law_norm" S__law_norm) (d__law_other : Def P w K mg base T 3 "_law_other" S__law_other) (d__law_product : Def P w K mg base T 3 "_law_product" S__law_product) : Def P w K mg base T 4 "_law_rest" S__law_rest := by
  obtain ⟨f, fd, hm, F⟩ := e.fn__law_rest
  refine def_mk F hm sc__law_rest (fun_binds F fun _ _ _ _ _ _ us hl => match us, hl with | [_, _, _], _ => rfl) m__law_rest l__law_rest fun cdv A outer s H E EE gh hcd hK hmg hT z => ?_
  exact ⟨t__law_rest EE, (dss_cons (ds_par 3 4 z.toCz rfl rfl (by decide) rfl rfl (da_cons (de_callT hT z.toCz d__law_product (by decide) (by rfl) (da_cons (de_var 0) (da_cons (de_var 1) (da_cons (de_callT hT z.toCz d__law_other (by decide) (by rfl) (da_cons (de_var 0) (da_cons (de_var 2) da_nil))) da_nil)))) (da_cons (de_callT hT z.toCz d__law_norm (by decide) (by rfl) (da_cons (de_var 0) (da_cons (de_var 2) da_nil))) da_nil)) rfl) (dss_cons (ds_set 5 z.b rfl (.inl rfl) (dv_of (de_tup (da_cons (de_fdiv (de_add z.hK (de_mul de_int (de_ix z.b (de_var 3) de_int)) (de_var 4)) (de_mul de_int (de_var 4))) (da_cons (de_fdiv (de_add z.hK (de_mul de_int (de_ix z.b (de_var 3) de_int)) (de_var 4)) (de_mul de_int (de_var 4))) da_nil))))) (dss_cons (ds_ret (de_callT hT z.toCz d__law_less (by decide) (by rfl) (da_cons (de_var 1) (da_cons (de_callT hT z.toCz d__law_product (by decide) (by rfl) (da_cons (de_var 0) (da_cons (de_var 5) (da_cons (de_var 2) da_nil)))) da_nil)))) dss_nil))), fun ds Kk h => r__law_rest h⟩
theorem d__law_refused (e : Fx P w K mg base T) (d__law_bad_kind : Def P w K mg base T 5 "_law_bad_kind" S__law_bad_kind) (d__law_bad_letters : Def P w K mg base T 5 "_law_bad_letters" S__law_bad_letters) (d__law_three : Def P w K mg base T 12 "_law_three" S__law_three) (d__law_two : Def P w K mg base T 12 "_law_two" S__law_two) : Def P w K mg base T 13 "_law_refused" S__law_refused := by
  obtain ⟨f, fd, hm, F⟩ := e.fn__law_refused
  obtain ⟨a_is_primary, fd_is_primary, mg_is_primary, F_is_primary⟩ := e.fn_is_primary
  obtain ⟨a_primary_of, fd_primary_of, mg_primary_of, F_primary_of⟩ := e.fn_primary_of
  refine def_mk F hm sc__law_refused (fun_binds F fun _ _ _ _ _ _ us hl => match us, hl with | [_], _ => rfl) m__law_refused l__law_refused fun cdv A outer s H E EE gh hcd hK hmg hT z => ?_
  exact ⟨t__law_refused EE, (dss_cons (ds_par3 1 2 3 z.toCz rfl rfl rfl (by decide) (by decide) (by decide) rfl rfl rfl (da_cons (de_callT hT z.toCz d__law_bad_kind (by decide) (by rfl) (da_cons (de_var 0) da_nil)) (da_cons (de_callT hT z.toCz d__law_bad_letters (by decide) (by rfl) (da_cons (de_var 0) da_nil)) (da_cons (de_callT hT z.toCz d__law_bad_letters (by decide) (by rfl) (da_cons (de_var 0) da_nil)) da_nil))) rfl) (dss_cons (ds_set 4 z.b rfl (.inl rfl) (dv_of (de_lst (da_cons (de_callT hT z.toCz d__law_two (by decide) (by rfl) (da_cons (de_fn (by rfl) mg_is_primary z.hmg) (da_cons (de_var 1) (da_cons (de_var 2) da_nil)))) (da_cons (de_callT hT z.toCz d__law_two (by decide) (by rfl) (da_cons (de_fn (by rfl) mg_primary_of z.hmg) (da_cons (de_var 1) (da_cons (de_var 2) da_nil)))) (da_cons (de_callT hT z.toCz d__law_three (by decide) (by rfl) (da_cons (de_var 1) (da_cons (de_var 2) (da_cons (de_var 3) da_nil)))) da_nil)))))) (dss_cons (ds_if ((dc_ne z.b (de_var 4) (de_mul (de_lst (da_cons (de_tup (da_cons de_str (da_cons de_str (da_cons (de_repr z.b (by rfl) e.fr_repr (da_cons (de_var 1) da_nil)) da_nil)))) da_nil)) de_int)).dt _) (dss_cons (ds_ret de_bl) dss_nil) dss_nil) (dss_cons (ds_set 4 z.b rfl (.inl rfl) (dv_of (de_lst (da_cons (de_callT hT z.toCz d__law_two (by decide) (by rfl) (da_cons (de_fn (by rfl) mg_is_primary z.hmg) (da_cons de_int (da_cons (de_var 2) da_nil)))) (da_cons (de_callT hT z.toCz d__law_two (by decide) (by rfl) (da_cons (de_fn (by rfl) mg_primary_of z.hmg) (da_cons de_int (da_cons (de_var 2) da_nil)))) (da_cons (de_callT hT z.toCz d__law_three (by decide) (by rfl) (da_cons de_int (da_cons (de_var 2) (da_cons (de_var 3) da_nil)))) (da_cons (de_callT hT z.toCz d__law_three (by decide) (by rfl) (da_cons de_int (da_cons (de_tup (da_cons de_int (da_cons de_int da_nil))) (da_cons (de_var 3) da_nil)))) da_nil))))))) (dss_cons (ds_ret ((dc_eq z.b (de_var 4) (de_add z.hK (de_mul (de_lst (da_cons (de_tup (da_cons de_str (da_cons de_str (da_cons (de_repr z.b (by rfl) e.fr_repr (da_cons (de_var 2) da_nil)) da_nil)))) da_nil)) de_int) (de_lst (da_cons (de_tup (da_cons de_str (da_cons de_str (da_cons (de_repr z.b (by rfl) e.fr_repr (da_cons (de_var 2) da_nil)) da_nil)))) (da_cons (de_tup (da_cons de_str (da_cons de_str (da_cons (de_repr z.b (by rfl) e.fr_repr (da_cons (de_var 3) da_nil)) da_nil)))) da_nil))))).de _)) dss_nil))))), fun ds Kk h => r__law_refused h⟩
theorem d__law_two (e : Fx P w K mg base T)  (fa : ∀ kl, 6 ≤ kl → FaultD P w K mg base T kl "_law_fault" "call" RKf) (ΓD : GDefs P w K mg base T 9 Γ) : Def P w K mg base T 12 "_law_two" S__law_two := by
  obtain ⟨f, fd, c, P0, hm, F, hcode, TB, hmT, hu⟩ := e.lm__law_two
  refine def_mk F hm sc__law_two (fun_binds F fun _ _ _ _ _ _ us hl => match us, hl with | [_, _, _], _ => rfl) m__law_two l__law_two fun cdv A outer s H E EE gh hcd hK hmg hT z => ?_
  exact ⟨t__law_two EE, (dss_cons (ds_ret (de_lamT hT z.toCz (fa 9 (by decide)) (by decide) (by rfl) TB (hcd.symm.trans hcode) hmT hu (fun A outer s H E f c' gL EXL hl zl => (de_callV 0 (hl.trans hT) zl ΓD (by decide) (da_cons (de_var 1) (da_cons (de_var 2) da_nil)))) (lm_callV mΓ (ma_cons me_var (ma_cons me_var ma_nil))) rkf_mono (L := lamS_by (sc := defScope st__law_two) (by decide +kernel)))) dss_nil), fun ds Kk h => r__law_two h⟩
theorem d__law_three (e : Fx P w K mg base T) (d_common_part : Def P w K mg base T 9 "common_part" S_common_part) (fa : ∀ kl, 6 ≤ kl → FaultD P w K mg base T kl "_law_fault" "call" RKf) : Def P w K mg base T 12 "_law_three" S__law_three := by
  obtain ⟨f, fd, c, P0, hm, F, hcode, TB, hmT, hu⟩ := e.lm__law_three
  refine def_mk F hm sc__law_three (fun_binds F fun _ _ _ _ _ _ us hl => match us, hl with | [_, _, _], _ => rfl) m__law_three l__law_three fun cdv A outer s H E EE gh hcd hK hmg hT z => ?_
  exact ⟨t__law_three EE, (dss_cons (ds_ret (de_lamT hT z.toCz (fa 9 (by decide)) (by decide) (by rfl) TB (hcd.symm.trans hcode) hmT hu (fun A outer s H E f c' gL EXL hl zl => (de_callT (hl.trans hT) zl d_common_part (by decide) (by rfl) (da_cons (de_var 0) (da_cons (de_var 1) (da_cons (de_var 2) da_nil))))) (lm_call m_common_part (ma_cons me_var (ma_cons me_var (ma_cons me_var ma_nil)))) rkf_mono (L := lamS_by (sc := defScope st__law_three) (by decide +kernel)))) dss_nil), fun ds Kk h => r__law_three h⟩
theorem d_law (e : Fx P w K mg base T) (pd : DefPen P w K mg base 3) (d__law_kind : Def P w K mg base T 5 "_law_kind" S__law_kind) (d__law_refused : Def P w K mg base T 13 "_law_refused" S__law_refused) (d__law_right : Def P w K mg base T 13 "_law_right" S__law_right) : ∃ f fd, mg "law" = some (.ref f) ∧ Fun K "law" "law" st_law f fd ∧ FnG P w K mg base 14 f fd ["script"] (spLaw K T) := by
  obtain ⟨f, fd, hm, F⟩ := e.fn_law
  exact ⟨f, fd, hm, F, law_mk F sc_law rfl (by obtain ⟨f, fd, ps, a1, a2, a3, a4⟩ := pd.ex; exact ⟨f, fd, ps, a1, a2, a3, a4.mono (by decide)⟩) rfl rfl rfl (fun cdv A outer s H E gh hcd hK hmg hT z => (dss_cons (ds_forR z (by rfl) e.fr_range de_int (dg_name 2 z.b rfl (.inl rfl)) (dss_cons (ds_if (dw_or (dt_not (dt_tru z.hK (de_callT hT z.toCz d__law_right (by decide) (by rfl) (da_cons (de_var 1) (da_cons (de_callT hT z.toCz d__law_kind (by decide) (by rfl) (da_cons (de_var 1) da_nil)) da_nil))))) (dw_or1 (dt_not (dt_tru z.hK (de_callT hT z.toCz d__law_refused (by decide) (by rfl) (da_cons (de_var 1) da_nil)))))).dt (dss_cons (ds_ret de_bl) dss_nil) dss_nil) dss_nil)) (dss_cons (ds_ret de_bl) dss_nil))) r_law⟩
end
end DL

set_option Elab.async false
set_option linter.all false
set_option maxRecDepth 100000
set_option maxHeartbeats 0
namespace DL
open PySem PySem.Spec PyProof.Rows L2 LamX

section
variable {P : Program} {w : World} {h : Heap} {K : PySem.W.Frag} {mg : Str → Option Value}
theorem ex_h (c : He.SaysX faL fnL [] tfL exB w h K) : XN.all (xk1B K) = true ∧ (["BadNumber", "BadRow", "Unlike"] : List Str).all (fun x => oexB K (He.ga K x)) = true ∧ (tfL.map fun p => (He.cT K p).2).Nodup := by
  obtain ⟨h1, q⟩ := He.ba c.more
  obtain ⟨h2, h3⟩ := He.ba q
  exact ⟨h1, h2, of_decide_eq_true h3⟩
theorem gl_all (X : K.In h) (G : h.Ns mainGlobals mg) (c : He.SaysX faL fnL [] tfL exB w h K) : ∀ n ∈ XN, mg n = some (.ref (He.ga K n)) := by
  intro n hn
  simp only [XN, List.mem_cons, List.not_mem_nil, or_false] at hn
  rcases hn with rfl | rfl | rfl | rfl | rfl | rfl | rfl | rfl | rfl | rfl | rfl | rfl | rfl | rfl | rfl | rfl
  · exact He.glo_ok X G (c.t.d.fact 0 rfl)
  · exact He.glo_ok X G (c.t.d.fact 1 rfl)
  · exact He.glo_ok X G (c.t.d.fact 2 rfl)
  · exact He.glo_ok X G (c.t.d.fact 3 rfl)
  · exact He.glo_ok X G (c.t.d.fact 4 rfl)
  · exact He.glo_ok X G (c.t.d.fact 5 rfl)
  · exact He.glo_ok X G (c.t.d.fact 6 rfl)
  · exact He.glo_ok X G (c.t.d.fact 7 rfl)
  · exact He.glo_ok X G (c.t.d.fact 8 rfl)
  · exact He.glo_ok X G (c.t.d.fact 9 rfl)
  · exact He.glo_ok X G (c.t.d.fact 10 rfl)
  · exact He.glo_ok X G (c.t.d.fact 11 rfl)
  · exact He.glo_ok X G (c.t.d.fact 12 rfl)
  · exact He.glo_ok X G (c.t.d.fact 13 rfl)
  · exact He.glo_ok X G (c.t.d.fact 14 rfl)
  · exact He.glo_ok X G (c.t.d.fact 15 rfl)
theorem fx_all (X : K.In h) (G : h.Ns mainGlobals mg) (c : He.SaysX faL fnL [] tfL exB w h K) {base : Heap} (tb : ∀ p ∈ tfL.map (He.cT K), TabB base mg p.1 p.2) : Fx P w K mg base (tabT K tfL) := by
  obtain ⟨h1, h2, nd⟩ := ex_h c
  have gl := gl_all X G c
  exact {
    lm__law_three := fx_lm X G c tb nd 70 54 0 rfl rfl rfl,
    lm__law_two := fx_lm X G c tb nd 69 53 1 rfl rfl rfl,
    fn_is_integer := fx_fn X G c 16 0 rfl rfl,
    fn_is_list := fx_fn X G c 17 1 rfl rfl,
    fn_need_kind := fx_fn X G c 18 2 rfl rfl,
    fn_is_letters := fx_fn X G c 19 3 rfl rfl,
    fn_need_letters := fx_fn X G c 20 4 rfl rfl,
    fn_norm_by := fx_fn X G c 21 5 rfl rfl,
    fn_other_by := fx_fn X G c 22 6 rfl rfl,
    fn_product_by := fx_fn X G c 23 7 rfl rfl,
    fn_less_by := fx_fn X G c 24 8 rfl rfl,
    fn_quotient_by := fx_fn X G c 25 9 rfl rfl,
    fn_rest_by := fx_fn X G c 26 10 rfl rfl,
    fn_goes_by := fx_fn X G c 27 11 rfl rfl,
    fn_units_by := fx_fn X G c 28 12 rfl rfl,
    fn_power_by := fx_fn X G c 29 13 rfl rfl,
    fn_even_by := fx_fn X G c 30 14 rfl rfl,
    fn_is_primary_by := fx_fn X G c 31 15 rfl rfl,
    fn_parted_by := fx_fn X G c 32 16 rfl rfl,
    fn_common_by := fx_fn X G c 33 17 rfl rfl,
    fn_is_primary := fx_fn X G c 34 18 rfl rfl,
    fn_primary_of := fx_fn X G c 35 19 rfl rfl,
    fn_common_part := fx_fn X G c 36 20 rfl rfl,
    fn__law_pen := fx_fn X G c 37 21 rfl rfl,
    fn__law_draw := fx_fn X G c 38 22 rfl rfl,
    fn__law_pick := fx_fn X G c 39 23 rfl rfl,
    fn__law_is := fx_fn X G c 40 24 rfl rfl,
    fn__law_says := fx_fn X G c 41 25 rfl rfl,
    fn__law_is_whole := fx_fn X G c 42 26 rfl rfl,
    fn__law_wide := fx_fn X G c 43 27 rfl rfl,
    fn__law_fault := fx_fn X G c 44 28 rfl rfl,
    fn__law_kinds := fx_fn X G c 45 29 rfl rfl,
    fn__law_more_kinds := fx_fn X G c 46 30 rfl rfl,
    fn__law_signed := fx_fn X G c 47 31 rfl rfl,
    fn__law_kind := fx_fn X G c 48 32 rfl rfl,
    fn__law_norm := fx_fn X G c 49 33 rfl rfl,
    fn__law_other := fx_fn X G c 50 34 rfl rfl,
    fn__law_product := fx_fn X G c 51 35 rfl rfl,
    fn__law_less := fx_fn X G c 52 36 rfl rfl,
    fn__law_goes := fx_fn X G c 53 37 rfl rfl,
    fn__law_over := fx_fn X G c 54 38 rfl rfl,
    fn__law_units := fx_fn X G c 55 39 rfl rfl,
    fn__law_even := fx_fn X G c 56 40 rfl rfl,
    fn__law_is_primary := fx_fn X G c 57 41 rfl rfl,
    fn__law_primary_one := fx_fn X G c 58 42 rfl rfl,
    fn__law_letters := fx_fn X G c 59 43 rfl rfl,
    fn__law_some_letters := fx_fn X G c 60 44 rfl rfl,
    fn__law_primary := fx_fn X G c 61 45 rfl rfl,
    fn__law_bad_letters := fx_fn X G c 62 46 rfl rfl,
    fn__law_bad_kind := fx_fn X G c 63 47 rfl rfl,
    fn__law_right := fx_fn X G c 64 48 rfl rfl,
    fn__law_common_right := fx_fn X G c 65 49 rfl rfl,
    fn__law_even_power := fx_fn X G c 66 50 rfl rfl,
    fn__law_rest := fx_fn X G c 67 51 rfl rfl,
    fn__law_refused := fx_fn X G c 68 52 rfl rfl,
    fn__law_two := fx_fn X G c 69 53 rfl rfl,
    fn__law_three := fx_fn X G c 70 54 rfl rfl,
    fn_law := fx_fn X G c 71 55 rfl rfl,
    fr_ValueError := fx_free X G c 72 rfl,
    fr_abs := fx_free X G c 73 rfl,
    fr_all := fx_free X G c 74 rfl,
    fr_bool := fx_free X G c 75 rfl,
    fr_int := fx_free X G c 76 rfl,
    fr_isinstance := fx_free X G c 77 rfl,
    fr_len := fx_free X G c 78 rfl,
    fr_list := fx_free X G c 79 rfl,
    fr_range := fx_free X G c 80 rfl,
    fr_repr := fx_free X G c 81 rfl,
    fr_str := fx_free X G c 82 rfl,
    fr_tuple := fx_free X G c 83 rfl,
    i_MOST_LETTER := fx_int X G c 84 rfl,
    xc_BadNumber := (fx_ini c 56 rfl).elim fun _ FI => xi_BadNumber (He.glo_ok X G (c.t.d.fact 1 rfl)) (oexB_ok (List.all_eq_true.mp h2 "BadNumber" (by decide +kernel))) (fx_meth c 85 rfl).1 (fx_meth c 85 rfl).2 FI (fx_noat c 86 rfl) (fx_noat c 87 rfl),
    xc_BadRow := (fx_ini c 57 rfl).elim fun _ FI => xi_BadRow (He.glo_ok X G (c.t.d.fact 2 rfl)) (oexB_ok (List.all_eq_true.mp h2 "BadRow" (by decide +kernel))) (fx_meth c 88 rfl).1 (fx_meth c 88 rfl).2 FI (fx_noat c 89 rfl) (fx_noat c 90 rfl),
    xc_Unlike := (fx_ini c 58 rfl).elim fun _ FI => xi_Unlike (He.glo_ok X G (c.t.d.fact 10 rfl)) (oexB_ok (List.all_eq_true.mp h2 "Unlike" (by decide +kernel))) (fx_meth c 91 rfl).1 (fx_meth c 91 rfl).2 FI (fx_noat c 92 rfl),
    xa := xallB_ok h1 gl,
    cl := fun n hn => ⟨_, gl n hn⟩ }
theorem law_G {base : Heap} {T : List (Addr × Str)} (e : Fx P w K mg base T) : ∃ f fd, mg "law" = some (.ref f) ∧ Fun K "law" "law" st_law f fd ∧ FnG P w K mg base 14 f fd ["script"] (spLaw K T) := by
  have h_d__law_draw := d__law_draw e
  have h_d__law_pick := d__law_pick e h_d__law_draw
  have h_d__law_kind := d__law_kind e h_d__law_pick
  have h_d__law_bad_kind := d__law_bad_kind e h_d__law_pick
  have h_d__law_bad_letters := d__law_bad_letters e h_d__law_pick
  have h_d_even_by := d_even_by e
  have h_d_less_by := d_less_by e
  have h_d_product_by := d_product_by e
  have h_d_norm_by := d_norm_by e
  have h_d_other_by := d_other_by e
  have h_d_quotient_by := d_quotient_by e h_d_norm_by h_d_other_by h_d_product_by
  have h_d_rest_by := d_rest_by e h_d_less_by h_d_product_by h_d_quotient_by
  have h_d_goes_by := d_goes_by e h_d_rest_by
  have h_d_is_primary_by := d_is_primary_by e
  have h_d_units_by := d_units_by e h_d_product_by
  have h_d_parted_by := d_parted_by e h_d_even_by h_d_goes_by h_d_is_primary_by h_d_product_by h_d_quotient_by h_d_units_by
  have h_d_power_by := d_power_by e h_d_product_by
  have h_d_common_by := d_common_by e h_d_even_by h_d_parted_by h_d_power_by h_d_product_by h_d_rest_by
  have h_d_is_integer := d_is_integer e
  have h_d_need_kind := d_need_kind e h_d_is_integer
  have h_d_is_letters := d_is_letters e h_d_is_integer
  have h_d_is_list := d_is_list e
  have h_d_need_letters := d_need_letters e h_d_is_letters h_d_is_list
  have h_d_common_part := d_common_part e h_d_common_by h_d_need_kind h_d_need_letters
  have h_d__law_more_kinds := d__law_more_kinds e
  have h_d__law_kinds := d__law_kinds e h_d__law_more_kinds
  have h_d__law_fault := d__law_fault e h_d__law_kinds
  have h_d__law_three := d__law_three e h_d_common_part h_d__law_fault
  have h_d_is_primary := d_is_primary e h_d_is_primary_by h_d_need_kind h_d_need_letters
  have h_d_primary_of := d_primary_of e h_d_need_kind h_d_need_letters h_d_parted_by
  have hΓ : GDefs P w K mg base T 9 Γ := by
    intro q hq
    simp only [Γ, List.mem_cons, List.not_mem_nil, or_false] at hq
    rcases hq with rfl | rfl
    · exact def_le h_d_is_primary (by decide)
    · exact def_le h_d_primary_of (by decide)
  have h_d__law_two := d__law_two e h_d__law_fault hΓ
  have h_d__law_refused := d__law_refused e h_d__law_bad_kind h_d__law_bad_letters h_d__law_three h_d__law_two
  have h_d__law_even := d__law_even e
  have h_d__law_product := d__law_product e
  have h_d__law_even_power := d__law_even_power e h_d__law_even h_d__law_product
  have h_d__law_norm := d__law_norm e
  have h_d__law_other := d__law_other e
  have h_d__law_goes := d__law_goes e h_d__law_norm h_d__law_other h_d__law_product
  have h_d__law_is : Def P w K mg base T 7 "_law_is" (S__law_is RN__law_is) := (d__law_is e) RN__law_is
  have h_d__law_is_primary := d__law_is_primary e
  have h_d__law_wide := d__law_wide e h_d__law_draw
  have h_d__law_signed := d__law_signed e h_d__law_draw h_d__law_wide
  have h_d__law_letters := d__law_letters e h_d__law_signed
  have h_d__law_over := d__law_over e h_d__law_norm h_d__law_other h_d__law_product
  have h_d__law_less := d__law_less e
  have h_d__law_rest := d__law_rest e h_d__law_less h_d__law_norm h_d__law_other h_d__law_product
  have h_d__law_some_letters := d__law_some_letters e h_d__law_letters h_d__law_pick
  have h_d__law_common_right := d__law_common_right e h_d__law_draw h_d__law_even h_d__law_even_power h_d__law_goes h_d__law_is h_d__law_is_primary h_d__law_letters h_d__law_norm h_d__law_over h_d__law_pick h_d__law_product h_d__law_rest h_d__law_some_letters h_d_common_part
  have h_d__law_is_whole := d__law_is_whole e
  have h_d__law_primary := d__law_primary e h_d__law_letters
  have h_d__law_units := d__law_units e
  have h_d__law_primary_one := d__law_primary_one e h_d__law_is_primary h_d__law_product h_d__law_units
  have h_d__law_says := d__law_says e
  have h_d__law_right := d__law_right e h_d__law_common_right h_d__law_draw h_d__law_even h_d__law_goes h_d__law_is h_d__law_is_primary h_d__law_is_whole h_d__law_letters h_d__law_other h_d__law_over h_d__law_pick h_d__law_primary h_d__law_primary_one h_d__law_product h_d__law_says h_d__law_two h_d__law_units h_d_is_primary h_d_primary_of
  have h_d__law_pen := d__law_pen e
  have h_d_law := d_law e h_d__law_pen h_d__law_kind h_d__law_refused h_d__law_right
  exact h_d_law
end
end DL
open PySem PySem.W PySem.Calls PyProof.Rows
theorem PySem.Challenge.cw_fourthsthirds_k05_whole_primary_numbers_holds : PySem.Challenge.rw_fourthsthirds_k05_whole_primary_numbers.Holds := by
  w_on; o_law
  refine HandSHeadRun.head_any (r := OpenLaw.row PySem.Challenge.rw_fourthsthirds_k05_whole_primary_numbers) (q := view (OpenLaw.row PySem.Challenge.rw_fourthsthirds_k05_whole_primary_numbers).prog [77]) (H := DL.hk) (ob := DL.ob) (M := 9000) (loose := DL.nmL) (d := HandSHeadRun.topDef (OpenLaw.row PySem.Challenge.rw_fourthsthirds_k05_whole_primary_numbers).prog 77) (kwd := []) DL.ob_eq
    (by kernel_rfl) (fun s => by kernel_rfl) DL.run (by kernel_rfl) (by kernel_rfl) (by kernel_rfl) (by rfl) (by first | assumption | decide +kernel) (by decide +kernel) ⟨rfl, rfl, rfl, rfl, rfl, by decide +kernel⟩ ?hw ?hc
  case hw => w_witness2
  case hc =>
    refine DL.walk_G (l := PySem.Challenge.rw_fourthsthirds_k05_whole_primary_numbers) (n := 63) (k := 14) (x := "script") rfl (by decide) (by kernel_rfl) ⟨⟨rfl, by decide, by decide⟩, rfl⟩ ?F
    intro w mg fa h Y G hmg0
    obtain ⟨K, KX, c⟩ := Y
    have hmg : mg ("law" : PySem.Str) = some (.ref fa) := by
      have e : (HandSHeadRun.topDef (OpenLaw.row PySem.Challenge.rw_fourthsthirds_k05_whole_primary_numbers).prog 77).name = ("law" : PySem.Str) := by kernel_rfl
      rw [← e]
      exact hmg0
    obtain ⟨f0, fd, hf0, F0⟩ := DL.fx_fn KX G c (x := "law") (st := DL.st_law) 71 55 rfl rfl
    have ef : f0 = fa := by
      have e := hf0.symm.trans hmg
      cases e; rfl
    subst ef
    refine ⟨K, KX, fd, DL.tfL.map (He.cT K), DL.spLaw K (DL.tabT K DL.tfL), ?_, ?_, ?_, ?_, ?_, ?_⟩
    · intro p hp
      obtain ⟨q, hq, rfl⟩ := List.mem_map.mp hp
      exact c.empty q hq
    · intro p hp
      obtain ⟨q, hq, rfl⟩ := List.mem_map.mp hp
      exact c.out q hq
    · intro p hp
      obtain ⟨q, hq, rfl⟩ := List.mem_map.mp hp
      exact codeHd_of_K KX (c.hd q hq)
    · exact DL.binds_any F0 fun _ _ _ _ _ _ _ => rfl
    · intro H a ns hl hb hT hS
      exact ⟨a, ns, rfl, hS, DL.tabs_of hT, fun _ => rfl⟩
    · intro base KB GB tb
      obtain ⟨f1, fd1, hf1, F1, hG⟩ := DL.law_G (P := (PySem.Challenge.rw_fourthsthirds_k05_whole_primary_numbers).prog) (w := w) (DL.fx_all KX G c tb)
      have e1 := hf1.symm.trans hf0
      cases e1
      have e2 := DL.fun_uniq F1 F0
      subst e2
      exact hG
