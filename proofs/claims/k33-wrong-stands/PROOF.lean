import PyProof.Rows.All
import Wide.All
import OpenK.AllK
import Wide.FinOn
import HandS.ForMost
import HandS.ForExc
import HandS.IsInst
import HandS.WordsExc
import HandS.Ends
import HandS.Style
import PySem.Challenge.RW_whilemerged_k33_wrong_stands
set_option Elab.async false
set_option linter.all false
set_option maxRecDepth 100000
set_option maxHeartbeats 4000000
namespace WM
open PySem PySem.Spec PyProof.Rows L2

/-! ### data -/
inductive D where
  | non | bl (b : Bool) | int (i : Int) | str (s : Str)
  | lst (xs : List D) | tup (xs : List D) | dct (kvs : List (Key × D))
  | obj (c : Nat) (fs : List (Str × D))
  | scr (ns : List Int) | draw | ty (n : String) | cls (c : Nat) | me (d : D)
  deriving Inhabited

/-- the draws: a dict and its two lists; n draws at least may still be made -/
def DrawOk (dr wl cl : Addr) (cs : List Int) (n : Nat) (H : Hp) : Prop := ∃ (ws : List Int) (r t : Int), H dr = some (.dK [(.inr "wide", .ref wl), (.inr "cells", .ref cl), (.inr "rest", .int r), (.inr "turn", .int t)]) ∧
  H wl = some (.lst (ws.map V.int)) ∧ H cl = some (.lst (cs.map V.int)) ∧ wl ≠ cl ∧ (∀ x, x ∈ cs → 0 ≤ x ∧ x < 2147483629) ∧ ws.length ≤ 63 ∧ cs.length ≤ 63 ∧ 0 ≤ t ∧ t + (n : Int) ≤ 1000000000
/-- the ground: what may change around (the draws), and what holds of it -/
structure Gd where
  dr : Option Addr
  wl : Addr
  cl : Addr
  cs : List Int
  b : Nat
  me : Addr
def zoneOf (dr : Option Addr) (wl cl : Addr) : List Addr := match dr with
  | none => []
  | some a => [a, wl, cl]
abbrev Gd.Z0 (g : Gd) : List Addr := zoneOf g.dr g.wl g.cl
def Gd.Wd (g : Gd) (H : Hp) : Prop := ∀ a, g.dr = some a → DrawOk a g.wl g.cl g.cs g.b H
@[reducible] def Gd.at (g : Gd) (n : Nat) : Gd := ⟨g.dr, g.wl, g.cl, g.cs, n, g.me⟩
theorem DrawOk.same {dr wl cl : Addr} {cs : List Int} {n : Nat} {H H' : Hp} (h : ∀ b, b ∈ [dr, wl, cl] → H' b = H b) (w : DrawOk dr wl cl cs n H) : DrawOk dr wl cl cs n H' := by
  obtain ⟨ws, r, t, h1, h2, h3, h4⟩ := w
  exact ⟨ws, r, t, by rw [h _ (by simp)]; exact h1, by rw [h _ (by simp)]; exact h2, by rw [h _ (by simp)]; exact h3, h4⟩
theorem Gd.wd (g : Gd) {H H' : Hp} (h : ∀ b, b ∈ g.Z0 → H' b = H b) (w : g.Wd H) : g.Wd H' := fun a e => (w a e).same fun b hb => h b (by
  unfold Gd.Z0 zoneOf
  rw [e]
  exact hb)
theorem Gd.zin (g : Gd) {H : Hp} (w : g.Wd H) (b : Addr) (h : b ∈ g.Z0) : ∃ o, H b = some o := by
  unfold Gd.Z0 zoneOf at h
  cases e : g.dr with
  | none => rw [e] at h; cases h
  | some a =>
    rw [e] at h
    obtain ⟨ws, r, t, h1, h2, h3, h4⟩ := w a e
    simp only [List.mem_cons, List.not_mem_nil, or_false] at h
    rcases h with rfl | rfl | rfl
    · exact ⟨_, h1⟩
    · exact ⟨_, h2⟩
    · exact ⟨_, h3⟩

def Ag (Z : List Addr) (H H' : Hp) : Prop := ∀ b o, b ∉ Z → H b = some o → H' b = some o
theorem Ag.refl {Z : List Addr} {H : Hp} : Ag Z H H := fun _ _ _ h => h
theorem Ag.trans {Z : List Addr} {H H1 H2 : Hp} (a : Ag Z H H1) (b : Ag Z H1 H2) : Ag Z H H2 := fun x o n h => b x o n (a x o n h)
theorem Ag.new {Z : List Addr} {H : Hp} {p : Addr} {o : HO} (h : H p = none) : Ag Z H (upd H p o) := fun b u _ e => by
  rw [upd_ne (ne_of_none e h)]; exact e
/-- an object unknown to H0 is changed -/
theorem Ag.mut {Z : List Addr} {H H' : Hp} {p : Addr} {o : HO} (a : Ag Z H H') (h : H p = none) : Ag Z H (upd H' p o) := fun b u n e => by
  rw [upd_ne (ne_of_none e h)]; exact a b u n e

section
variable (K : PySem.W.Frag) (CA : Nat → Addr) (dr : Option Addr) (Z : List Addr) (H : Hp)
mutual
inductive Rp : V → D → Prop
  | non : Rp .non .non
  | bl (b : Bool) : Rp (.bl b) (.bl b)
  | int (i : Int) : Rp (.int i) (.int i)
  | str (x : Str) : Rp (.str x) (.str x)
  | lst {a : Addr} {xs : List V} {ds : List D} : a ∉ Z → H a = some (.lst xs) → RpAll xs ds → Rp (.ref a) (.lst ds)
  | tup {a : Addr} {xs : List V} {ds : List D} : a ∉ Z → H a = some (.tup xs) → RpAll xs ds → Rp (.ref a) (.tup ds)
  | ktup {a : Addr} {xs : List V} {ds : List D} : SqT K (fun _ => none) a xs → RpAll xs ds → Rp (.ref a) (.tup ds)
  | dct {a : Addr} {kvs : List (Key × V)} {dks : List (Key × D)} : a ∉ Z → H a = some (.dK kvs) → kvs.map (·.1) = dks.map (·.1) → RpAll (kvs.map (·.2)) (dks.map (·.2)) → Rp (.ref a) (.dct dks)
  | obj {a : Addr} {c : Nat} {dx : Addr} {fs : List (Str × V)} {dfs : List (Str × D)} : a ∉ Z → H a = some (.ins (CA c) dx fs) → fs.map (·.1) = dfs.map (·.1) → RpAll (fs.map (·.2)) (dfs.map (·.2)) → Rp (.ref a) (.obj c dfs)
  | scr {a : Addr} {ns : List Int} {o : Obj} : a ∉ Z → H a = some (.frz o (.lst (ns.map V.int))) → Rp (.ref a) (.scr ns)
  | kscr {a : Addr} {ns : List Int} : SqL K (fun _ => none) a (ns.map V.int) → Rp (.ref a) (.scr ns)
  | draw {a : Addr} : dr = some a → Rp (.ref a) .draw
  | ty (n : String) : Rp (.ty n) (.ty n)
  | cls (c : Nat) : Rp (.ref (CA c)) (.cls c)
  | me {a : Addr} {d : D} : Rp (.ref a) d → Rp (.ref a) (.me d)
inductive RpAll : List V → List D → Prop
  | nil : RpAll [] []
  | cons {v : V} {vs : List V} {d : D} {ds : List D} : Rp v d → RpAll vs ds → RpAll (v :: vs) (d :: ds)
end
end

section
variable {K : PySem.W.Frag} {CA : Nat → Addr} {dr : Option Addr} {Z Z' : List Addr} {H H' : Hp} {v : V} {d : D} {vs : List V} {ds : List D}
theorem Rp.moveBoth (k : ∀ a o, a ∉ Z → H a = some o → a ∉ Z' ∧ H' a = some o) :
    (∀ v d, Rp K CA dr Z H v d → Rp K CA dr Z' H' v d) ∧ (∀ vs ds, RpAll K CA dr Z H vs ds → RpAll K CA dr Z' H' vs ds) := by
  have m1 : ∀ v d, Rp K CA dr Z H v d → Rp K CA dr Z' H' v d := fun v d h => by
    refine Rp.rec (motive_1 := fun v d _ => Rp K CA dr Z' H' v d) (motive_2 := fun vs ds _ => RpAll K CA dr Z' H' vs ds) ?_ ?_ ?_ ?_ ?_ ?_ ?_ ?_ ?_ ?_ ?_ ?_ ?_ ?_ ?_ ?_ ?_ h
    · exact .non
    · exact .bl
    · exact .int
    · exact .str
    · intro a xs ds n e _ ih
      exact .lst (k _ _ n e).1 (k _ _ n e).2 ih
    · intro a xs ds n e _ ih
      exact .tup (k _ _ n e).1 (k _ _ n e).2 ih
    · intro a xs ds e _ ih
      exact .ktup e ih
    · intro a kvs dks n e en _ ih
      exact .dct (k _ _ n e).1 (k _ _ n e).2 en ih
    · intro a c dx fs dfs n e en _ ih
      exact .obj (k _ _ n e).1 (k _ _ n e).2 en ih
    · intro a ns o n e
      exact .scr (k _ _ n e).1 (k _ _ n e).2
    · intro a ns e
      exact .kscr e
    · intro a e
      exact .draw e
    · exact .ty
    · exact .cls
    · intro a d _ ih
      exact .me ih
    · exact .nil
    · intro v vs d ds _ _ ih1 ih2
      exact .cons ih1 ih2
  refine ⟨m1, fun vs ds h => ?_⟩
  induction vs generalizing ds with
  | nil => cases h; exact .nil
  | cons v vs ih =>
    cases h with
    | cons h1 h2 => exact .cons (m1 _ _ h1) (ih _ h2)
theorem Rp.ag (h : Rp K CA dr Z H v d) (k : ∀ a o, a ∉ Z → H a = some o → H' a = some o) : Rp K CA dr Z H' v d := (Rp.moveBoth fun a o n e => ⟨n, k a o n e⟩).1 _ _ h
theorem RpAll.ag (h : RpAll K CA dr Z H vs ds) (k : ∀ a o, a ∉ Z → H a = some o → H' a = some o) : RpAll K CA dr Z H' vs ds := (Rp.moveBoth fun a o n e => ⟨n, k a o n e⟩).2 _ _ h
theorem Rp.zone (h : Rp K CA dr Z H v d) (k : ∀ a, a ∈ Z' → a ∈ Z) : Rp K CA dr Z' H v d := (Rp.moveBoth fun a o n e => ⟨fun z => n (k a z), e⟩).1 _ _ h
theorem RpAll.zone (h : RpAll K CA dr Z H vs ds) (k : ∀ a, a ∈ Z' → a ∈ Z) : RpAll K CA dr Z' H vs ds := (Rp.moveBoth fun a o n e => ⟨fun z => n (k a z), e⟩).2 _ _ h
theorem Rp.grow {p : Addr} (h : Rp K CA dr Z H v d) (n : H p = none) : Rp K CA dr (p :: Z) H v d := (Rp.moveBoth fun a o m e => ⟨fun z => by
  rcases List.mem_cons.mp z with rfl | z
  · rw [n] at e; cases e
  · exact m z, e⟩).1 _ _ h
theorem RpAll.grow {p : Addr} (h : RpAll K CA dr Z H vs ds) (n : H p = none) : RpAll K CA dr (p :: Z) H vs ds := (Rp.moveBoth fun a o m e => ⟨fun z => by
  rcases List.mem_cons.mp z with rfl | z
  · rw [n] at e; cases e
  · exact m z, e⟩).2 _ _ h
theorem RpAll.length (h : RpAll K CA dr Z H vs ds) : vs.length = ds.length := by
  induction vs generalizing ds with
  | nil => cases h; rfl
  | cons v vs ih => cases h with
    | cons _ h2 => simp [ih h2]
theorem RpAll.get (h : RpAll K CA dr Z H vs ds) {i : Nat} {v : V} (e : vs[i]? = some v) : ∃ d, ds[i]? = some d ∧ Rp K CA dr Z H v d := by
  induction vs generalizing ds i with
  | nil => simp at e
  | cons x vs ih => cases h with
    | cons h1 h2 =>
      cases i with
      | zero => simp at e; subst e; exact ⟨_, rfl, h1⟩
      | succ i => simpa using ih h2 (by simpa using e)
theorem RpAll.getD (h : RpAll K CA dr Z H vs ds) {i : Nat} {d : D} (e : ds[i]? = some d) : ∃ v, vs[i]? = some v ∧ Rp K CA dr Z H v d := by
  induction vs generalizing ds i with
  | nil => cases h; simp at e
  | cons x vs ih => cases h with
    | cons h1 h2 =>
      cases i with
      | zero => simp at e; subst e; exact ⟨_, rfl, h1⟩
      | succ i => simpa using ih h2 (by simpa using e)
theorem RpAll.append {vs' : List V} {ds' : List D} (h : RpAll K CA dr Z H vs ds) (h' : RpAll K CA dr Z H vs' ds') : RpAll K CA dr Z H (vs ++ vs') (ds ++ ds') := by
  induction vs generalizing ds with
  | nil => cases h; exact h'
  | cons x vs ih => cases h with
    | cons h1 h2 => exact .cons h1 (ih h2)
theorem RpAll.take (h : RpAll K CA dr Z H vs ds) (n : Nat) : RpAll K CA dr Z H (vs.take n) (ds.take n) := by
  induction vs generalizing ds n with
  | nil => cases h; simp; exact .nil
  | cons x vs ih => cases h with
    | cons h1 h2 =>
      cases n with
      | zero => exact .nil
      | succ n => exact .cons h1 (ih h2 n)
theorem RpAll.drop (h : RpAll K CA dr Z H vs ds) (n : Nat) : RpAll K CA dr Z H (vs.drop n) (ds.drop n) := by
  induction vs generalizing ds n with
  | nil => cases h; simp; exact .nil
  | cons x vs ih => cases h with
    | cons h1 h2 =>
      cases n with
      | zero => exact .cons h1 h2
      | succ n => exact ih h2 n
end

/-! ### slots -/
inductive Sl where
  | sh (d : D) | ow (d : D)
abbrev DE := List (Option Sl)
/-- what is wanted, by the draws that are left -/
abbrev NP := Nat → Prop
abbrev EX := Nat → List (Str × D) → NP

section
variable (K : PySem.W.Frag) (CA : Nat → Addr)
inductive Own (dr : Option Addr) (me : Addr) (Z : List Addr) (H : Hp) (a : Addr) : D → Prop
  | lst {xs : List V} {ds : List D} : H a = some (.lst xs) → RpAll K CA dr Z H xs ds → Own dr me Z H a (.lst ds)
  | dct {kvs : List (Key × V)} {dks : List (Key × D)} : H a = some (.dK kvs) → kvs.map (·.1) = dks.map (·.1) → RpAll K CA dr Z H (kvs.map (·.2)) (dks.map (·.2)) → Own dr me Z H a (.dct dks)
  | obj {c : Nat} {dx : Addr} {fs : List (Str × V)} {dfs : List (Str × D)} : H a = some (.ins (CA c) dx fs) → fs.map (·.1) = dfs.map (·.1) → RpAll K CA dr Z H (fs.map (·.2)) (dfs.map (·.2)) → Own dr me Z H a (.obj c dfs)
  | me {c : Nat} {dx : Addr} {fs : List (Str × V)} {dfs : List (Str × D)} : a = me → H a = some (.ins (CA c) dx fs) → fs.map (·.1) = dfs.map (·.1) → RpAll K CA dr Z H (fs.map (·.2)) (dfs.map (·.2)) → Own dr me Z H a (.me (.obj c dfs))
def SlR (dr : Option Addr) (me : Addr) (Zc Z : List Addr) (H : Hp) (v : V) : Sl → Prop
  | .sh d => Rp K CA dr Z H v d
  | .ow d => ∃ a, v = .ref a ∧ a ∈ Z ∧ a ∉ Zc ∧ Own K CA dr me Z H a d
/-- the ground stands -/
structure GO (g : Gd) (Zc Z : List Addr) (H : Hp) : Prop where
  wd : g.Wd H
  c0 : ∀ b, b ∈ g.Z0 → b ∈ Zc
  cz : ∀ b, b ∈ Zc → b ∈ Z
  zin : ∀ b, b ∈ Z → ∃ o, H b = some o
structure SO (g : Gd) (Zc Z : List Addr) (H : Hp) (σ : L2.St) (ρ : DE) : Prop where
  go : GO g Zc Z H
  len : σ.length = ρ.length
  sl : ∀ (i : Nat) (s : Sl), ρ[i]? = some (some s) → ∃ v, σ[i]? = some (some v) ∧ SlR K CA g.dr g.me Zc Z H v s
  inj : ∀ (i j : Nat) (d e : D) (v : V), ρ[i]? = some (some (.ow d)) → ρ[j]? = some (some (.ow e)) → σ[i]? = some (some v) → σ[j]? = some (some v) → i = j
/-- an exception, told -/
def XR (dr : Option Addr) (Z : List Addr) (H : Hp) (cls : Value) (dd : Option Addr) (c : Nat) (fs : List (Str × D)) : Prop :=
  cls = .ref (CA c) ∧ ((dd = none ∧ fs = []) ∨ ∃ (x : Addr) (hf : List (Str × V)), dd = some x ∧ x ∉ Z ∧ H x = some (.xd hf) ∧ hf.map (·.1) = fs.map (·.1) ∧ RpAll K CA dr Z H (hf.map (·.2)) (fs.map (·.2)))
end
/-- the frame: since the def's entry at H0 -/
structure Fr (g : Gd) (Zc : List Addr) (H0 : Hp) (Z : List Addr) (H : Hp) : Prop where
  ag : Ag g.Z0 H0 H
  nz : ∀ b, b ∈ Z → b ∈ Zc ∨ H0 b = none

section
variable {K : PySem.W.Frag} {CA : Nat → Addr} {g : Gd} {Zc Z : List Addr} {H H' H0 : Hp} {σ : L2.St} {ρ : DE} {v : V} {s : Sl} {a : Addr} {d : D}
theorem GO.ag {n : Nat} (o : GO g Zc Z H) (k : Ag g.Z0 H H') (w : (g.at n).Wd H') : GO (g.at n) Zc Z H' := ⟨w, o.c0, o.cz, fun b hb => by
  by_cases h0 : b ∈ g.Z0
  · exact (g.at n).zin w b h0
  · obtain ⟨x, e⟩ := o.zin b hb
    exact ⟨x, k b x h0 e⟩⟩
theorem GO.z0 (o : GO g Zc Z H) {b : Addr} (h : b ∈ g.Z0) : b ∈ Z := o.cz b (o.c0 b h)
theorem GO.agZ (o : GO g Zc Z H) (k : Ag g.Z0 H H') : ∀ a u, a ∉ Z → H a = some u → H' a = some u := fun a u n e => k a u (fun z => n (o.z0 z)) e
theorem GO.rp (o : GO g Zc Z H) (k : Ag g.Z0 H H') (h : Rp K CA g.dr Z H v d) : Rp K CA g.dr Z H' v d := h.ag (o.agZ k)
theorem GO.rps {vs : List V} {ds : List D} (o : GO g Zc Z H) (k : Ag g.Z0 H H') (h : RpAll K CA g.dr Z H vs ds) : RpAll K CA g.dr Z H' vs ds := h.ag (o.agZ k)
theorem GO.fresh (o : GO g Zc Z H) {p : Addr} (n : H p = none) : p ∉ Z := fun z => by
  obtain ⟨x, e⟩ := o.zin p z
  rw [n] at e; cases e
theorem GO.wdNew (o : GO g Zc Z H) {p : Addr} {u : HO} (n : H p = none) : g.Wd (upd H p u) := g.wd (fun b hb => upd_ne (fun z => o.fresh n (z ▸ o.z0 hb))) o.wd
theorem GO.wdMut (o : GO g Zc Z H) {p : Addr} {u : HO} (n : p ∉ Zc) : g.Wd (upd H p u) := g.wd (fun b hb => upd_ne (fun z => n (z ▸ o.c0 b hb))) o.wd
theorem Own.ag {dr : Option Addr} {me : Addr} (h : Own K CA dr me Z H a d) (k : ∀ b u, b ∉ Z → H b = some u → H' b = some u) (ka : ∀ u, H a = some u → H' a = some u) : Own K CA dr me Z H' a d := by
  cases h with
  | lst e r => exact .lst (ka _ e) (r.ag k)
  | dct e en r => exact .dct (ka _ e) en (r.ag k)
  | obj e en r => exact .obj (ka _ e) en (r.ag k)
  | me eq e en r => exact .me eq (ka _ e) en (r.ag k)
theorem SlR.ag (o : GO g Zc Z H) (k : Ag g.Z0 H H') (h : SlR K CA g.dr g.me Zc Z H v s) : SlR K CA g.dr g.me Zc Z H' v s := by
  cases s with
  | sh d => exact o.rp k h
  | ow d =>
    obtain ⟨a, e, h1, h2, h3⟩ := h
    exact ⟨a, e, h1, h2, h3.ag (o.agZ k) fun u q => k a u (fun z => h2 (o.c0 a z)) q⟩
theorem SO.ag {n : Nat} (S : SO K CA g Zc Z H σ ρ) (k : Ag g.Z0 H H') (w : (g.at n).Wd H') : SO K CA (g.at n) Zc Z H' σ ρ :=
  ⟨S.go.ag k w, S.len, fun i s e => let ⟨v, e1, h⟩ := S.sl i s e; ⟨v, e1, SlR.ag (g := g) S.go k h⟩, S.inj⟩
theorem Fr.ag' {n : Nat} (F : Fr g Zc H0 Z H) (k : Ag g.Z0 H H') : Fr (g.at n) Zc H0 Z H' := ⟨F.ag.trans k, F.nz⟩
theorem set_some {α : Type} {l : List α} {i j : Nat} {x y : α} (h : (l.set i x)[j]? = some y) : (j = i ∧ y = x) ∨ (j ≠ i ∧ l[j]? = some y) := by
  by_cases e : j = i
  · subst e
    left
    refine ⟨rfl, ?_⟩
    rw [List.getElem?_set_self' ] at h
    cases q : l[j]? with
    | none => rw [q] at h; simp at h
    | some z => rw [q] at h; simpa using h.symm
  · right
    rw [List.getElem?_set_ne (Ne.symm e)] at h
    exact ⟨e, h⟩
/-- a shared value is stored -/
theorem SO.setSh (S : SO K CA g Zc Z H σ ρ) (i : Nat) (r : Rp K CA g.dr Z H v d) : SO K CA g Zc Z H (σ.set i (some v)) (ρ.set i (some (.sh d))) := by
  refine ⟨S.go, by simp [S.len], fun j s e => ?_, fun j k x y u e1 e2 e3 e4 => ?_⟩
  · rcases set_some e with ⟨rfl, q⟩ | ⟨n, q⟩
    · cases q
      have hj : j < ρ.length := by
        have := (List.getElem?_eq_some_iff.mp e).1
        simpa using this
      exact ⟨v, by rw [List.getElem?_set_self (by rw [S.len]; exact hj)], r⟩
    · obtain ⟨w, e1, h⟩ := S.sl j s q
      exact ⟨w, by rw [List.getElem?_set_ne (Ne.symm n)]; exact e1, h⟩
  · rcases set_some e1 with ⟨_, q⟩ | ⟨n1, q1⟩
    · cases q
    · rcases set_some e2 with ⟨_, q⟩ | ⟨n2, q2⟩
      · cases q
      · rw [List.getElem?_set_ne (Ne.symm n1)] at e3
        rw [List.getElem?_set_ne (Ne.symm n2)] at e4
        exact S.inj j k x y u q1 q2 e3 e4
/-- the zone grows by a new object's address, at which an object is laid -/
theorem SO.growNew (S : SO K CA g Zc Z H σ ρ) {p : Addr} {u : HO} (n : H p = none) : SO K CA g Zc (p :: Z) (upd H p u) σ ρ := by
  have kz : ∀ b x, b ∉ p :: Z → H b = some x → upd H p u b = some x := fun b x m e => by
    have hb : b ≠ p := fun z => m (by rw [z]; exact List.mem_cons_self ..)
    rw [upd_ne hb]; exact e
  refine ⟨⟨S.go.wdNew n, S.go.c0, fun b hb => List.mem_cons_of_mem _ (S.go.cz b hb), fun b hb => ?_⟩, S.len, fun i s e => ?_, S.inj⟩
  · rcases List.mem_cons.mp hb with rfl | hb
    · exact ⟨u, upd_same⟩
    · obtain ⟨x, e⟩ := S.go.zin b hb
      exact ⟨x, by rw [upd_ne (ne_of_none e n)]; exact e⟩
  · obtain ⟨v, e1, h⟩ := S.sl i s e
    refine ⟨v, e1, ?_⟩
    cases s with
    | sh d => exact (Rp.grow h n).ag kz
    | ow d =>
      obtain ⟨a, ea, h1, h2, h3⟩ := h
      refine ⟨a, ea, List.mem_cons_of_mem _ h1, h2, ?_⟩
      have hne : ∀ x, H a = some x → a ≠ p := fun x q => ne_of_none q n
      cases h3 with
      | lst q r => exact .lst (by rw [upd_ne (hne _ q)]; exact q) ((r.grow n).ag kz)
      | dct q en r => exact .dct (by rw [upd_ne (hne _ q)]; exact q) en ((r.grow n).ag kz)
      | obj q en r => exact .obj (by rw [upd_ne (hne _ q)]; exact q) en ((r.grow n).ag kz)
      | me eq q en r => exact .me eq (by rw [upd_ne (hne _ q)]; exact q) en ((r.grow n).ag kz)
/-- an owned value is stored: at a, in the zone, no other slot's -/
theorem SO.setOw (S : SO K CA g Zc Z H σ ρ) (i : Nat) (h1 : a ∈ Z) (h2 : a ∉ Zc) (h3 : Own K CA g.dr g.me Z H a d) (un : ∀ (j : Nat) (e : D), j ≠ i → ρ[j]? = some (some (.ow e)) → σ[j]? ≠ some (some (.ref a))) :
    SO K CA g Zc Z H (σ.set i (some (.ref a))) (ρ.set i (some (.ow d))) := by
  refine ⟨S.go, by simp [S.len], fun j s e => ?_, fun j k x y u e1 e2 e3 e4 => ?_⟩
  · rcases set_some e with ⟨rfl, q⟩ | ⟨n, q⟩
    · cases q
      have hj : j < ρ.length := by
        have := (List.getElem?_eq_some_iff.mp e).1
        simpa using this
      exact ⟨.ref a, by rw [List.getElem?_set_self (by rw [S.len]; exact hj)], a, rfl, h1, h2, h3⟩
    · obtain ⟨w, e1, h⟩ := S.sl j s q
      exact ⟨w, by rw [List.getElem?_set_ne (Ne.symm n)]; exact e1, h⟩
  · rcases set_some e1 with ⟨rfl, q⟩ | ⟨n1, q1⟩
    · rcases set_some e2 with ⟨rfl, q⟩ | ⟨n2, q2⟩
      · rfl
      · rcases set_some e3 with ⟨_, z⟩ | ⟨z, _⟩
        · cases z
          rw [List.getElem?_set_ne (Ne.symm n2)] at e4
          exact absurd e4 (un k y n2 q2)
        · exact absurd rfl z
    · rcases set_some e2 with ⟨rfl, q⟩ | ⟨n2, q2⟩
      · rcases set_some e4 with ⟨_, z⟩ | ⟨z, _⟩
        · cases z
          rw [List.getElem?_set_ne (Ne.symm n1)] at e3
          exact absurd e3 (un j x n1 q1)
        · exact absurd rfl z
      · rw [List.getElem?_set_ne (Ne.symm n1)] at e3
        rw [List.getElem?_set_ne (Ne.symm n2)] at e4
        exact S.inj j k x y u q1 q2 e3 e4
/-- the owned object of slot i is written -/
theorem SO.write (S : SO K CA g Zc Z H σ ρ) {i : Nat} {u : HO} {d' : D} (e : ρ[i]? = some (some (.ow d))) (ea : σ[i]? = some (some (.ref a))) (hz : a ∈ Z) (hc : a ∉ Zc) (new : Own K CA g.dr g.me Z (upd H a u) a d') :
    SO K CA g Zc Z (upd H a u) σ (ρ.set i (some (.ow d'))) := by
  have kz : ∀ b x, b ∉ Z → H b = some x → upd H a u b = some x := fun b x m e => by
    have hb : b ≠ a := fun z => m (by rw [z]; exact hz)
    rw [upd_ne hb]; exact e
  refine ⟨⟨S.go.wdMut hc, S.go.c0, S.go.cz, fun b hb => ?_⟩, by simp [S.len], fun j s qq => ?_, fun j k x y w e1 e2 e3 e4 => ?_⟩
  · by_cases h : b = a
    · subst h; exact ⟨u, upd_same⟩
    · obtain ⟨x, q⟩ := S.go.zin b hb
      exact ⟨x, by rw [upd_ne h]; exact q⟩
  · rcases set_some qq with ⟨rfl, q⟩ | ⟨n, q⟩
    · cases q
      exact ⟨_, ea, a, rfl, hz, hc, new⟩
    · obtain ⟨v, e1, h⟩ := S.sl j s q
      refine ⟨v, e1, ?_⟩
      cases s with
      | sh d => exact Rp.ag h kz
      | ow x =>
        obtain ⟨b, eb, h1, h2, h3⟩ := h
        refine ⟨b, eb, h1, h2, h3.ag kz fun w q' => ?_⟩
        have hba : b ≠ a := fun z => by
          subst z
          exact n (S.inj j i x d _ q e (eb ▸ e1) ea)
        rw [upd_ne hba]; exact q'
  · have key : ∀ (m : Nat) (z : D), (ρ.set i (some (.ow d')))[m]? = some (some (.ow z)) → ∃ z', ρ[m]? = some (some (.ow z')) := fun m z h => by
      rcases set_some h with ⟨rfl, _⟩ | ⟨_, h⟩
      · exact ⟨d, e⟩
      · exact ⟨z, h⟩
    obtain ⟨x', e1⟩ := key j x e1
    obtain ⟨y', e2⟩ := key k y e2
    exact S.inj j k x' y' w e1 e2 e3 e4
/-- an owned slot is shared from now on -/
theorem SO.share (S : SO K CA g Zc Z H σ ρ) {i : Nat} (e : ρ[i]? = some (some (.ow d))) : ∃ Z', (∀ b, b ∈ Z' → b ∈ Z) ∧ SO K CA g Zc Z' H σ (ρ.set i (some (.sh d))) := by
  obtain ⟨v, ev, a, rfl, hz, hc, ow⟩ := S.sl i _ e
  have sub : ∀ b, b ∈ Z.filter (fun b => decide (b ≠ a)) → b ∈ Z := fun b hb => (List.mem_filter.mp hb).1
  have na : a ∉ Z.filter (fun b => decide (b ≠ a)) := fun h => by simpa using (List.mem_filter.mp h).2
  refine ⟨Z.filter (fun b => decide (b ≠ a)), sub, ⟨S.go.wd, S.go.c0, fun b hb => List.mem_filter.mpr ⟨S.go.cz b hb, by
    simp
    exact fun z => hc (z ▸ hb)⟩, fun b hb => S.go.zin b (sub b hb)⟩, by simp [S.len], fun j s qq => ?_, fun j k x y u e1 e2 e3 e4 => ?_⟩
  · rcases set_some qq with ⟨rfl, q⟩ | ⟨n, q⟩
    · cases q
      refine ⟨_, ev, ?_⟩
      cases ow with
      | lst q' r => exact .lst na q' (r.zone sub)
      | dct q' en r => exact .dct na q' en (r.zone sub)
      | obj q' en r => exact .obj na q' en (r.zone sub)
      | me eq q' en r => exact .me (.obj na q' en (r.zone sub))
    · obtain ⟨v, e1, h⟩ := S.sl j s q
      refine ⟨v, e1, ?_⟩
      cases s with
      | sh d => exact Rp.zone h sub
      | ow x =>
        obtain ⟨b, eb, h1, h2, h3⟩ := h
        have hba : b ≠ a := fun z => by
          subst z
          exact n (S.inj j i x d _ q e (eb ▸ e1) ev)
        refine ⟨b, eb, List.mem_filter.mpr ⟨h1, by simpa using hba⟩, h2, ?_⟩
        cases h3 with
        | lst q' r => exact .lst q' (r.zone sub)
        | dct q' en r => exact .dct q' en (r.zone sub)
        | obj q' en r => exact .obj q' en (r.zone sub)
        | me eq q' en r => exact .me eq q' en (r.zone sub)
  · rcases set_some e1 with ⟨_, q⟩ | ⟨n1, q1⟩
    · cases q
    · rcases set_some e2 with ⟨_, q⟩ | ⟨n2, q2⟩
      · cases q
      · exact S.inj j k x y u q1 q2 e3 e4
end
end WM
namespace WM
open PySem PySem.Spec PyProof.Rows L2

/-! ### heap-free readings -/
abbrev TD := DE → (D → NP) → EX → NP
abbrev TDs := DE → (List D → NP) → EX → NP
abbrev TB := DE → (Bool → NP) → EX → NP
structure DEnds where
  nx : DE → NP
  rt : D → NP
  bk : DE → NP := fun _ _ => False
  ct : DE → NP := fun _ _ => False
  ex : DE → EX := fun _ _ _ _ => False
abbrev SD := DEnds → DE → NP

section
variable (K : PySem.W.Frag) (CA : Nat → Addr) (W : WX)
/-- a value's wish, dominated -/
def DomV (g : Gd) (Z : List Addr) (H : Hp) (Q : D → Prop) (Q' : VK) : Prop := ∀ v H' d, Ag g.Z0 H H' → g.Wd H' → Rp K CA g.dr Z H' v d → Q d → Q' v H'
def DomN (g : Gd) (Z : List Addr) (H : Hp) (Q : D → NP) (Q' : VK) : Prop := ∀ v H' d n, Ag g.Z0 H H' → (g.at n).Wd H' → Rp K CA g.dr Z H' v d → Q d n → Q' v H'
def DomX (g : Gd) (Z : List Addr) (H : Hp) (E : EX) (σ : L2.St) : Prop := ∀ cls dd H' c fs n, Ag g.Z0 H H' → (g.at n).Wd H' → XR K CA g.dr Z H' cls dd c fs → E c fs n → W cls dd σ H'
def SimE (tH : TE) (t : TD) : Prop := ∀ (g : Gd) (Zc Z : List Addr) (H : Hp) (σ : L2.St) (ρ : DE) (Q : D → NP) (E : EX) (Q' : VK), SO K CA g Zc Z H σ ρ → DomN K CA g Z H Q Q' → DomX K CA W g Z H E σ → t ρ Q E g.b → tH σ H Q'
def SimT (tH : TT) (t : TB) : Prop := ∀ (g : Gd) (Zc Z : List Addr) (H : Hp) (σ : L2.St) (ρ : DE) (Q : Bool → NP) (E : EX) (Q' : Bool → Hp → Prop), SO K CA g Zc Z H σ ρ →
  (∀ b H' n, Ag g.Z0 H H' → (g.at n).Wd H' → Q b n → Q' b H') → DomX K CA W g Z H E σ → t ρ Q E g.b → tH σ H Q'
def SimA (tH : TA) (t : TDs) : Prop := ∀ (g : Gd) (Zc Z : List Addr) (H : Hp) (σ : L2.St) (ρ : DE) (Q : List D → NP) (E : EX) (Q' : List V → Hp → Prop), SO K CA g Zc Z H σ ρ →
  (∀ vs H' ds n, Ag g.Z0 H H' → (g.at n).Wd H' → RpAll K CA g.dr Z H' vs ds → Q ds n → Q' vs H') → DomX K CA W g Z H E σ → t ρ Q E g.b → tH σ H Q'
/-- operations by values -/
def SimR (r : R2) (f : D → D → (D → Prop) → Prop) : Prop := ∀ (g : Gd) (Zc Z : List Addr) (H : Hp) (x y : V) (dx dy : D) (Q : D → Prop) (Q' : VK), GO g Zc Z H → Rp K CA g.dr Z H x dx → Rp K CA g.dr Z H y dy → DomV K CA g Z H Q Q' → f dx dy Q → r x y H Q'
def SimU (r : V → Hp → VK → Prop) (f : D → (D → Prop) → Prop) : Prop := ∀ (g : Gd) (Zc Z : List Addr) (H : Hp) (x : V) (dx : D) (Q : D → Prop) (Q' : VK), GO g Zc Z H → Rp K CA g.dr Z H x dx → DomV K CA g Z H Q Q' → f dx Q → r x H Q'
def SimC (r : List V → Hp → VK → Prop) (f : List D → (D → Prop) → Prop) : Prop := ∀ (g : Gd) (Zc Z : List Addr) (H : Hp) (xs : List V) (ds : List D) (Q : D → Prop) (Q' : VK), GO g Zc Z H → RpAll K CA g.dr Z H xs ds → DomV K CA g Z H Q Q' → f ds Q → r xs H Q'
end

section
variable {K : PySem.W.Frag} {CA : Nat → Addr} {W : WX} {g : Gd} {Zc Z : List Addr} {H H' : Hp} {σ : L2.St} {ρ : DE} {Q : D → Prop} {Q' : VK} {E : EX}
theorem DomV.ag (d : DomV K CA g Z H Q Q') (k : Ag g.Z0 H H') : DomV K CA g Z H' Q Q' := fun v H2 x a w r q => d v H2 x (k.trans a) w r q
theorem DomN.ag {QN : D → NP} {n : Nat} (d : DomN K CA g Z H QN Q') (k : Ag g.Z0 H H') : DomN K CA (g.at n) Z H' QN Q' := fun v H2 x m a w r q => d v H2 x m (k.trans a) w r q
theorem DomN.op {QN : D → NP} (d : DomN K CA g Z H QN Q') : DomV K CA g Z H (fun x => QN x g.b) Q' := fun v H2 x a w r q => d v H2 x g.b a w r q
theorem DomX.ag {n : Nat} (d : DomX K CA W g Z H E σ) (k : Ag g.Z0 H H') : DomX K CA W (g.at n) Z H' E σ := fun cls dd H2 c fs m a w r q => d cls dd H2 c fs m (k.trans a) w r q
theorem DomN.here {QN : D → NP} {v : V} {x : D} (d : DomN K CA g Z H QN Q') (o : GO g Zc Z H) (r : Rp K CA g.dr Z H v x) (q : QN x g.b) : Q' v H := d v H x g.b Ag.refl o.wd r q
theorem DomN.made {QN : D → NP} {x : D} {p : Addr} {u : HO} (d : DomN K CA g Z H QN Q') (o : GO g Zc Z H) (n : H p = none) (r : Rp K CA g.dr Z (upd H p u) (.ref p) x) (q : QN x g.b) : Q' (.ref p) (upd H p u) := d _ _ x g.b (Ag.new n) (o.wdNew n) r q
/-- the value is here: nothing changed -/
theorem DomV.here {v : V} {x : D} (d : DomV K CA g Z H Q Q') (o : GO g Zc Z H) (r : Rp K CA g.dr Z H v x) (q : Q x) : Q' v H := d v H x Ag.refl o.wd r q
/-- a new object -/
theorem DomV.made {x : D} {p : Addr} {u : HO} (d : DomV K CA g Z H Q Q') (o : GO g Zc Z H) (n : H p = none) (r : Rp K CA g.dr Z (upd H p u) (.ref p) x) (q : Q x) : Q' (.ref p) (upd H p u) := d _ _ x (Ag.new n) (o.wdNew n) r q
end

section
variable (X : Cx) (K : PySem.W.Frag) (CA : Nat → Addr) (W : WX)
structure WE (e : Expr) (tH : TE) (t : TD) : Prop where
  pe : PE X e tH
  sim : SimE K CA W tH t
structure WT (e : Expr) (tH : TT) (t : TB) : Prop where
  pe : PT X e tH
  sim : SimT K CA W tH t
structure WW (e : Expr) (tH : TT) (t : TB) : Prop where
  pe : PW X e tH
  sim : SimT K CA W tH t
structure WA (es : List Expr) (tH : TA) (t : TDs) : Prop where
  pe : PA X es tH
  sim : SimA K CA W tH t
end

/-! ### the readings -/
def dVar (i : Nat) : TD := fun ρ Q _ n => ∃ d, ρ[i]? = some (some (.sh d)) ∧ Q d n
def dC (d : D) : TD := fun _ Q _ => Q d
def dOp (f : D → D → (D → Prop) → Prop) (ta tb : TD) : TD := fun ρ Q E => ta ρ (fun x => tb ρ (fun y n => f x y fun z => Q z n) E) E
def dUn (f : D → (D → Prop) → Prop) (ta : TD) : TD := fun ρ Q E => ta ρ (fun x n => f x fun z => Q z n) E
def dNil : TDs := fun _ Q _ => Q []
def dCons (ta : TD) (ts : TDs) : TDs := fun ρ Q E => ta ρ (fun x => ts ρ (fun xs => Q (x :: xs)) E) E
def dTup (ts : TDs) : TD := fun ρ Q E => ts ρ (fun xs n => xs.length ≤ sizeLine ∧ Q (.tup xs) n) E
def dLst (ts : TDs) : TD := fun ρ Q E => ts ρ (fun xs n => xs.length ≤ sizeLine ∧ Q (.lst xs) n) E
def dB (t : TD) : TB := fun ρ Q E => t ρ (fun d n => ∃ b, d = .bl b ∧ Q b n) E
def dAnd (t u : TB) : TB := fun ρ Q E => t ρ (fun c n => if c = true then u ρ Q E n else Q false n) E
def dOr (t u : TB) : TB := fun ρ Q E => t ρ (fun c n => if c = true then Q true n else u ρ Q E n) E
def dNot (t : TB) : TB := fun ρ Q E => t ρ (fun c => Q (!c)) E
def dAndV (ta tb : TD) : TD := fun ρ Q E => ta ρ (fun x n => ∃ c, x = .bl c ∧ if c = true then tb ρ Q E n else Q (.bl false) n) E
def dOrV (ta tb : TD) : TD := fun ρ Q E => ta ρ (fun x n => ∃ c, x = .bl c ∧ if c = true then Q (.bl true) n else tb ρ Q E n) E
def dNotV (ta : TD) : TD := fun ρ Q E => ta ρ (fun x n => ∃ c, x = .bl c ∧ Q (.bl (!c)) n) E
def dIf (t : TB) (ta tb : TD) : TD := fun ρ Q E => t ρ (fun c n => if c = true then ta ρ Q E n else tb ρ Q E n) E
def dCB (f : List D → (D → Prop) → Prop) (ts : TDs) : TD := fun ρ Q E => ts ρ (fun xs n => f xs fun z => Q z n) E
def dChain (f f' : D → D → (D → Prop) → Prop) (ta tb tc : TD) : TD := fun ρ Q E => ta ρ (fun x => tb ρ (fun y n => f x y fun z => ∃ k, z = .bl k ∧ if k = true then tc ρ (fun w m => f' y w fun z => Q z m) E n else Q (.bl false) n) E) E

section
variable {X : Cx} {K : PySem.W.Frag} {CA : Nat → Addr} {W : WX} {e a b c : Expr} {es : List Expr} {pos : Pos} {ha hb hc : TE} {ta tb tc : TD} {hs : TA} {ts : TDs} {hA hB : TT} {tA tB : TB} {rest : List Expr}
theorem we_var {i : Nat} (h : PE X e (L2.tVar i)) : WE X K CA W e (L2.tVar i) (dVar i) := ⟨h, fun g Zc Z H σ ρ Q E Q' S dv dx t => by
  obtain ⟨d, e1, q⟩ := t
  obtain ⟨v, e2, r⟩ := S.sl i _ e1
  exact ⟨v, e2, dv.here S.go r q⟩⟩
theorem we_int {i j} : WE X K CA W (.Constant (.int i) j pos) (L2.tC (.int i)) (dC (.int i)) := ⟨pe_int, fun g Zc Z H σ ρ Q E Q' S dv dx t => dv.here S.go (.int i) t⟩
theorem we_bl {i j} : WE X K CA W (.Constant (.bool i) j pos) (L2.tC (.bl i)) (dC (.bl i)) := ⟨pe_bl, fun g Zc Z H σ ρ Q E Q' S dv dx t => dv.here S.go (.bl i) t⟩
theorem we_non {j} : WE X K CA W (.Constant .none j pos) (L2.tC .non) (dC .non) := ⟨pe_non, fun g Zc Z H σ ρ Q E Q' S dv dx t => dv.here S.go .non t⟩
theorem we_str {x j} : WE X K CA W (.Constant (.str x) j pos) (L2.tC (.str x)) (dC (.str x)) := ⟨pe_str, fun g Zc Z H σ ρ Q E Q' S dv dx t => dv.here S.go (.str x) t⟩
/-- a built-in type as a value -/
theorem we_ty {n : String} (h : PE X e (L2.tC (.ty n))) : WE X K CA W e (L2.tC (.ty n)) (dC (.ty n)) := ⟨h, fun g Zc Z H σ ρ Q E Q' S dv dx t => dv.here S.go (.ty n) t⟩
/-- an own class as a value -/
theorem we_cls {n : Nat} (h : PE X e (L2.tC (.ref (CA n)))) : WE X K CA W e (L2.tC (.ref (CA n))) (dC (.cls n)) := ⟨h, fun g Zc Z H σ ρ Q E Q' S dv dx t => dv.here S.go (.cls n) t⟩
theorem sim_op {r : R2} {f : D → D → (D → Prop) → Prop} {tH tH' : TE} (hs : SimR K CA r f) (ha : SimE K CA W tH ta) (hb : SimE K CA W tH' tb) : SimE K CA W (L2.tOp r tH tH') (dOp f ta tb) :=
  fun g Zc Z H σ ρ Q E Q' S dv dx t => ha g Zc Z H σ ρ _ E _ S (fun x H1 d1 nH1 a1 w1 r1 q1 =>
    hb _ Zc Z H1 σ ρ _ E _ (S.ag a1 w1) (fun y H2 d2 nH2 a2 w2 r2 q2 =>
      hs _ Zc Z H2 x y d1 d2 _ Q' ((S.go.ag a1 w1).ag a2 w2) ((S.go.ag a1 w1).rp a2 r1) r2 (dv.ag (a1.trans a2)).op q2) (dx.ag a1) q1) dx t
theorem we_op {op : Operator} {r : R2} {f : D → D → (D → Prop) → Prop} (ho : OpR X (binaryOp op) r) (s : SimR K CA r f) (xa : WE X K CA W a ha ta) (xb : WE X K CA W b hb tb) : WE X K CA W (.BinOp a op b pos) (L2.tOp r ha hb) (dOp f ta tb) :=
  ⟨pe_op ho xa.pe xb.pe, sim_op s xa.sim xb.sim⟩
theorem we_cmp {op : CmpOp} {r : R2} {f : D → D → (D → Prop) → Prop} (ho : OpR X (compareOp op) r) (s : SimR K CA r f) (xa : WE X K CA W a ha ta) (xb : WE X K CA W b hb tb) (hm : behindInMarks op b = false) : WE X K CA W (.Compare a [op] [b] pos) (L2.tOp r ha hb) (dOp f ta tb) :=
  ⟨pe_cmpR ho xa.pe xb.pe hm, sim_op s xa.sim xb.sim⟩
theorem sim_B {tH : TE} (h : SimE K CA W tH ta) : SimT K CA W (fun σ H Q => tH σ H fun x H' => ∃ k, x = .bl k ∧ Q k H') (dB ta) := fun g Zc Z H σ ρ Q E Q' S dv dx t =>
  h g Zc Z H σ ρ _ E _ S (fun v H1 d nH1 a w r q => by
    obtain ⟨k, rfl, q⟩ := q
    cases r
    exact ⟨k, rfl, dv k H1 _ a w q⟩) dx t
theorem wt_cmp {op : CmpOp} {r : R2} {f : D → D → (D → Prop) → Prop} (ho : OpR X (compareOp op) r) (s : SimR K CA r f) (xa : WE X K CA W a ha ta) (xb : WE X K CA W b hb tb) (hm : behindInMarks op b = false) : WT X K CA W (.Compare a [op] [b] pos) (tTest (L2.tOp r ha hb)) (dB (dOp f ta tb)) :=
  ⟨pt_cmpR ho xa.pe xb.pe hm, sim_B (sim_op s xa.sim xb.sim)⟩
theorem wt_val (h : WE X K CA W e ha ta) (he : ∀ whole, isTrue e X.env whole = (do let v ← whole; standAt e.pos; holding [v] (truthy v)) := by intro _; rfl) : WT X K CA W e (L2.tB ha) (dB ta) := ⟨pt_val h.pe he, sim_B h.sim⟩
theorem sim_chain {r r' : R2} {f f' : D → D → (D → Prop) → Prop} {t1 t2 t3 : TE} (hs : SimR K CA r f) (hs' : SimR K CA r' f') (ha : SimE K CA W t1 ta) (hb : SimE K CA W t2 tb) (hc : SimE K CA W t3 tc) :
    SimE K CA W (L2.tChain r r' t1 t2 t3) (dChain f f' ta tb tc) :=
  fun g Zc Z H σ ρ Q E Q' S dv dx t => ha g Zc Z H σ ρ _ E _ S (fun x H1 d1 nH1 a1 w1 r1 q1 =>
    hb _ Zc Z H1 σ ρ _ E _ (S.ag a1 w1) (fun y H2 d2 nH2 a2 w2 r2 q2 =>
      hs _ Zc Z H2 x y d1 d2 _ _ ((S.go.ag a1 w1).ag a2 w2) ((S.go.ag a1 w1).rp a2 r1) r2 (fun z H3 d3 a3 w3 r3 q3 => by
        obtain ⟨k, rfl, q3⟩ := q3
        cases r3
        refine ⟨k, rfl, ?_⟩
        have S3 := ((S.ag a1 w1).ag a2 w2).ag a3 w3
        have a13 := (a1.trans a2).trans a3
        cases k with
        | true => exact hc _ Zc Z H3 σ ρ _ E _ S3 (fun w H4 d4 nH4 a4 w4 r4 q4 => hs' _ Zc Z H4 y w d2 d4 _ Q' (S3.go.ag a4 w4) (S3.go.rp a4 (((S.ag a1 w1).ag a2 w2).go.rp a3 r2)) r4 (dv.ag (a13.trans a4)).op q4) (dx.ag a13) q3
        | false => exact (dv.ag a13).here S3.go (.bl false) q3) q2) (dx.ag a1) q1) dx t
theorem we_chain {op op' : CmpOp} {r r' : R2} {f f' : D → D → (D → Prop) → Prop} (s : SimR K CA r f) (s' : SimR K CA r' f') (xa : WE X K CA W a ha ta) (xb : WE X K CA W b hb tb) (xc : WE X K CA W c hc tc)
    (h : PE X a ha → PE X b hb → PE X c hc → PE X (.Compare a [op, op'] [b, c] pos) (L2.tChain r r' ha hb hc)) : WE X K CA W (.Compare a [op, op'] [b, c] pos) (L2.tChain r r' ha hb hc) (dChain f f' ta tb tc) :=
  ⟨h xa.pe xb.pe xc.pe, sim_chain s s' xa.sim xb.sim xc.sim⟩
theorem wt_chain {op op' : CmpOp} {r r' : R2} {f f' : D → D → (D → Prop) → Prop} (s : SimR K CA r f) (s' : SimR K CA r' f') (xa : WE X K CA W a ha ta) (xb : WE X K CA W b hb tb) (xc : WE X K CA W c hc tc)
    (h : PE X a ha → PE X b hb → PE X c hc → PT X (.Compare a [op, op'] [b, c] pos) (tTest (L2.tChain r r' ha hb hc))) : WT X K CA W (.Compare a [op, op'] [b, c] pos) (tTest (L2.tChain r r' ha hb hc)) (dB (dChain f f' ta tb tc)) :=
  ⟨h xa.pe xb.pe xc.pe, sim_B (sim_chain s s' xa.sim xb.sim xc.sim)⟩
theorem WW.wt (h : WW X K CA W e hA tA) : WT X K CA W e hA tA := ⟨h.pe.pt, h.sim⟩
theorem ww_and1 (h : WT X K CA W a hA tA) : WW X K CA W (.BoolOp .And [a] pos) hA tA := ⟨pw_and1 h.pe, h.sim⟩
theorem ww_or1 (h : WT X K CA W a hA tA) : WW X K CA W (.BoolOp .Or [a] pos) hA tA := ⟨pw_or1 h.pe, h.sim⟩
theorem ww_and (h : WT X K CA W a hA tA) (h' : WW X K CA W (.BoolOp .And (b :: rest) pos) hB tB) : WW X K CA W (.BoolOp .And (a :: b :: rest) pos) (L2.tAnd hA hB) (dAnd tA tB) := by
  refine ⟨pw_and h.pe h'.pe, fun g Zc Z H σ ρ Q E Q' S dv dx t => h.sim g Zc Z H σ ρ _ E _ S (fun k H1 nH1 a1 w1 q1 => ?_) dx t⟩
  cases k with
  | true => exact h'.sim _ Zc Z H1 σ ρ Q E Q' (S.ag a1 w1) (fun k' H2 nH2 a2 w2 q2 => dv k' H2 _ (a1.trans a2) w2 q2) (dx.ag a1) q1
  | false => exact dv false H1 _ a1 w1 q1
theorem ww_or (h : WT X K CA W a hA tA) (h' : WW X K CA W (.BoolOp .Or (b :: rest) pos) hB tB) : WW X K CA W (.BoolOp .Or (a :: b :: rest) pos) (L2.tOr hA hB) (dOr tA tB) := by
  refine ⟨pw_or h.pe h'.pe, fun g Zc Z H σ ρ Q E Q' S dv dx t => h.sim g Zc Z H σ ρ _ E _ S (fun k H1 nH1 a1 w1 q1 => ?_) dx t⟩
  cases k with
  | false => exact h'.sim _ Zc Z H1 σ ρ Q E Q' (S.ag a1 w1) (fun k' H2 nH2 a2 w2 q2 => dv k' H2 _ (a1.trans a2) w2 q2) (dx.ag a1) q1
  | true => exact dv true H1 _ a1 w1 q1
theorem wt_not (h : WT X K CA W a hA tA) : WT X K CA W (.UnaryOp .Not a pos) (L2.tNot hA) (dNot tA) :=
  ⟨pt_not h.pe, fun g Zc Z H σ ρ Q E Q' S dv dx t => h.sim g Zc Z H σ ρ _ E _ S (fun k H1 nH1 a1 w1 q1 => dv (!k) H1 _ a1 w1 q1) dx t⟩
theorem we_one {op} (h : WE X K CA W a ha ta) : WE X K CA W (.BoolOp op [a] pos) ha ta := ⟨pe_one h.pe, h.sim⟩
theorem we_and (h : WE X K CA W a ha ta) (h' : WE X K CA W (.BoolOp .And (b :: rest) pos) hb tb) : WE X K CA W (.BoolOp .And (a :: b :: rest) pos) (L2.tAndV ha hb) (dAndV ta tb) := by
  refine ⟨pe_and h.pe h'.pe, fun g Zc Z H σ ρ Q E Q' S dv dx t => h.sim g Zc Z H σ ρ _ E _ S (fun v H1 d nH1 a1 w1 r1 q1 => ?_) dx t⟩
  obtain ⟨k, rfl, q1⟩ := q1
  cases r1
  refine ⟨k, rfl, ?_⟩
  cases k with
  | true => exact h'.sim _ Zc Z H1 σ ρ Q E Q' (S.ag a1 w1) (dv.ag a1) (dx.ag a1) q1
  | false => exact dv _ H1 _ _ a1 w1 (.bl false) q1
theorem we_or (h : WE X K CA W a ha ta) (h' : WE X K CA W (.BoolOp .Or (b :: rest) pos) hb tb) : WE X K CA W (.BoolOp .Or (a :: b :: rest) pos) (L2.tOrV ha hb) (dOrV ta tb) := by
  refine ⟨pe_or h.pe h'.pe, fun g Zc Z H σ ρ Q E Q' S dv dx t => h.sim g Zc Z H σ ρ _ E _ S (fun v H1 d nH1 a1 w1 r1 q1 => ?_) dx t⟩
  obtain ⟨k, rfl, q1⟩ := q1
  cases r1
  refine ⟨k, rfl, ?_⟩
  cases k with
  | false => exact h'.sim _ Zc Z H1 σ ρ Q E Q' (S.ag a1 w1) (dv.ag a1) (dx.ag a1) q1
  | true => exact dv _ H1 _ _ a1 w1 (.bl true) q1
theorem we_not (h : WE X K CA W a ha ta) : WE X K CA W (.UnaryOp .Not a pos) (L2.tNotV ha) (dNotV ta) := by
  refine ⟨pe_not h.pe, fun g Zc Z H σ ρ Q E Q' S dv dx t => h.sim g Zc Z H σ ρ _ E _ S (fun v H1 d nH1 a1 w1 r1 q1 => ?_) dx t⟩
  obtain ⟨k, rfl, q1⟩ := q1
  cases r1
  exact ⟨k, rfl, dv _ H1 _ _ a1 w1 (.bl _) q1⟩
theorem we_ifExp (h0 : WT X K CA W c hA tA) (h : WE X K CA W a ha ta) (h' : WE X K CA W b hb tb) : WE X K CA W (.IfExp c a b pos) (L2.tIf hA ha hb) (dIf tA ta tb) := by
  refine ⟨pe_ifExp h0.pe h.pe h'.pe, fun g Zc Z H σ ρ Q E Q' S dv dx t => h0.sim g Zc Z H σ ρ _ E _ S (fun k H1 nH1 a1 w1 q1 => ?_) dx t⟩
  cases k with
  | true => exact h.sim _ Zc Z H1 σ ρ Q E Q' (S.ag a1 w1) (dv.ag a1) (dx.ag a1) q1
  | false => exact h'.sim _ Zc Z H1 σ ρ Q E Q' (S.ag a1 w1) (dv.ag a1) (dx.ag a1) q1
theorem wa_nil : WA X K CA W [] L2.tNil dNil := ⟨pa_nil, fun g Zc Z H σ ρ Q E Q' S dv dx t => dv [] H [] _ Ag.refl S.go.wd .nil t⟩
theorem wa_cons (h : WE X K CA W e ha ta) (h' : WA X K CA W es hs ts) (hst : starEach (e :: es) X.env = (false, eval e X.env) :: starEach es X.env := by rfl) : WA X K CA W (e :: es) (L2.tCons ha hs) (dCons ta ts) := by
  refine ⟨pa_cons h.pe h'.pe hst, fun g Zc Z H σ ρ Q E Q' S dv dx t => h.sim g Zc Z H σ ρ _ E _ S (fun v H1 d nH1 a1 w1 r1 q1 => ?_) dx t⟩
  exact h'.sim _ Zc Z H1 σ ρ _ E _ (S.ag a1 w1) (fun vs H2 ds nH2 a2 w2 r2 q2 => dv (v :: vs) H2 (d :: ds) _ (a1.trans a2) w2 (.cons ((S.ag a1 w1).go.rp a2 r1) r2) q2) (dx.ag a1) q1
theorem rp_new {K : PySem.W.Frag} {g : Gd} {Zc Z : List Addr} {H : Hp} {vs : List V} {ds : List D} {p : Addr} {u : HO} (o : GO g Zc Z H) (n : H p = none) (r : RpAll K CA g.dr Z H vs ds) : RpAll K CA g.dr Z (upd H p u) vs ds := o.rps (Ag.new n) r
theorem we_tup {x1} (h : WA X K CA W es hs ts) : WE X K CA W (.Tuple es x1 pos) (L2.tTup hs) (dTup ts) := by
  refine ⟨pe_tup h.pe, fun g Zc Z H σ ρ Q E Q' S dv dx t => h.sim g Zc Z H σ ρ _ E _ S (fun vs H1 ds nH1 a1 w1 r1 q1 => ⟨by rw [r1.length]; exact q1.1, fun q n => ?_⟩) dx t⟩
  have o := S.go.ag a1 w1
  exact (dv.ag a1).made o n (.tup (o.fresh n) upd_same (rp_new o n r1)) q1.2
theorem sim_CB {r : List V → Hp → VK → Prop} {f : List D → (D → Prop) → Prop} {tH : TA} (hs : SimC K CA r f) (ha : SimA K CA W tH ts) : SimE K CA W (tCB r tH) (dCB f ts) := fun g Zc Z H σ ρ Q E Q' S dv dx t =>
  ha g Zc Z H σ ρ _ E _ S (fun vs H1 ds nH1 a1 w1 r1 q1 => hs _ Zc Z H1 vs ds _ Q' (S.go.ag a1 w1) r1 (dv.ag a1).op q1) dx t
/-- a built-in's call: its own rule h -/
theorem we_cb {r : List V → Hp → VK → Prop} {f : List D → (D → Prop) → Prop} (s : SimC K CA r f) (x : WA X K CA W es hs ts) (h : PA X es hs → PE X e (tCB r hs)) : WE X K CA W e (tCB r hs) (dCB f ts) := ⟨h x.pe, sim_CB s x.sim⟩
theorem we_ix {r : R2} {f : D → D → (D → Prop) → Prop} (hr : IxR X r) (s : SimR K CA r f) (xa : WE X K CA W a ha ta) (xb : WE X K CA W b hb tb) (hp : PlainIx b := by exact fun _ _ => rfl) : WE X K CA W (.Subscript a b pos) (L2.tOp r ha hb) (dOp f ta tb) :=
  ⟨pe_ix hr xa.pe xb.pe hp, sim_op s xa.sim xb.sim⟩
end
end WM
namespace WM
open PySem PySem.Spec PyProof.Rows L2

/-! ### data's own functions -/
/- == of plain data -/
mutual
def eqD : D → D → Bool
  | .non, .non => true
  | .bl a, .bl b => a == b
  | .bl a, .int j => (if a then 1 else 0) == j
  | .int i, .bl b => i == (if b then 1 else 0)
  | .int i, .int j => i == j
  | .str x, .str y => x == y
  | .lst xs, .lst ys => eqDs xs ys
  | .tup xs, .tup ys => eqDs xs ys
  | _, _ => false
def eqDs : List D → List D → Bool
  | [], [] => true
  | x :: xs, y :: ys => eqD x y && eqDs xs ys
  | _, _ => false
end
mutual
/-- as the library's data -/
def toP : D → Option PyData
  | .non => some .none
  | .bl b => some (.bool b)
  | .int i => some (.int i)
  | .str x => some (.str x)
  | .lst xs => (toPs xs).map .list
  | .tup xs => (toPs xs).map .tuple
  | _ => none
def toPs : List D → Option (List PyData)
  | [] => some []
  | x :: xs => match toP x, toPs xs with
    | some p, some ps => some (p :: ps)
    | _, _ => none
end
def flatD : D → Bool
  | .non | .bl _ | .int _ | .str _ => true
  | _ => false
def intD : D → Bool
  | .int _ => true
  | _ => false
def blD : D → Bool
  | .bl _ => true
  | _ => false
/-- flat data that == tells apart by kind and value: an int against a truth is left out -/
def scalD (x y : D) : Bool := flatD x && flatD y && !(intD x && blD y) && !(blD x && intD y)
def EqOk (d : D) : Prop := ∃ p, toP d = some p ∧ SeqAt.shaped p = true
def keyD : D → Option Key
  | .int i => some (.inl i)
  | .str x => some (.inr x)
  | _ => none
def dGet (kvs : List (Key × D)) (k : Key) : Option D := (kvs.find? fun kv => decide (kv.1 = k)).map (·.2)
def dPut (ps : List (Key × D)) (k : Key) (d : D) : List (Key × D) :=
  if (ps.any fun p => decide (p.1 = k)) = true then ps.map (fun p => if p.1 = k then (p.1, d) else p)
  else ps ++ [(k, d)]
/-- isinstance of built-in types -/
def isB : D → String → Bool
  | .non, n => n == "NoneType"
  | .bl _, n => n == "bool" || n == "int"
  | .int _, n => n == "int"
  | .str _, n => n == "str"
  | .lst _, n => n == "list"
  | .tup _, n => n == "tuple"
  | .dct _, n => n == "dict"
  | _, _ => false
def tyN : D → Option String
  | .non => some "NoneType" | .bl _ => some "bool" | .int _ => some "int" | .str _ => some "str" | .lst _ => some "list" | .tup _ => some "tuple" | .dct _ => some "dict"
  | _ => none

section
variable {K : PySem.W.Frag} {CA : Nat → Addr} {dr : Option Addr} {Z : List Addr} {H : Hp} {v : V} {d : D}
theorem rp_flat (h : Rp K CA dr Z H v d) (f : flatD d = true) : flatV v = true := by cases h <;> first | rfl | cases f
theorem rp_flats {vs : List V} {ds : List D} (h : RpAll K CA dr Z H vs ds) (f : ds.all flatD = true) : vs.all flatV = true := by
  induction vs generalizing ds with
  | nil => rfl
  | cons x vs ih => cases h with
    | cons h1 h2 =>
      rw [List.all_cons, Bool.and_eq_true] at f ⊢
      exact ⟨rp_flat h1 f.1, ih h2 f.2⟩
theorem rp_eqV {y x : V} {e c : D} (h : Rp K CA dr Z H y e) (h' : Rp K CA dr Z H x c) (f : flatD e = true) (f' : flatD c = true) : eqV y x = eqD e c := by
  cases h <;> first
    | (cases f; done)
    | (cases h' <;> first | rfl | (cases f'; done))
theorem rp_inV {x : V} {c : D} {vs : List V} {ds : List D} (h : RpAll K CA dr Z H vs ds) (h' : Rp K CA dr Z H x c) (f : ds.all flatD = true) (f' : flatD c = true) : inV x vs = ds.any fun e => eqD e c := by
  unfold inV
  induction vs generalizing ds with
  | nil => cases h; rfl
  | cons y vs ih => cases h with
    | cons h1 h2 =>
      rw [List.all_cons, Bool.and_eq_true] at f
      rw [List.any_cons, List.any_cons, ih h2 f.2, rp_eqV h1 h' f.1 f']
theorem rp_scal {y x : V} {e c : D} (h : Rp K CA dr Z H y e) (h' : Rp K CA dr Z H x c) (s : scalD e c = true) : scal y x = true ∧ decide (y = x) = eqD e c := by
  cases h <;> first
    | (cases h' <;> first
      | exact ⟨rfl, rfl⟩
      | exact ⟨rfl, dec_int⟩
      | exact ⟨rfl, dec_bl⟩
      | exact ⟨rfl, dec_str⟩
      | cases s)
    | cases s
theorem sq_emp {a : Addr} {xs : List V} (h : SqT K (fun _ => none) a xs) : SqT K H a xs := by
  rcases h with h | h
  · rcases h with h | ⟨o, h⟩ <;> cases h
  · exact .inr h
theorem sl_emp {a : Addr} {xs : List V} (h : SqL K (fun _ => none) a xs) : SqL K H a xs := by
  rcases h with h | h
  · rcases h with h | ⟨o, h⟩ <;> cases h
  · exact .inr h
/-- a tuple of the data -/
theorem rp_tup {ds : List D} (h : Rp K CA dr Z H v (.tup ds)) : ∃ a xs, v = .ref a ∧ SqT K H a xs ∧ RpAll K CA dr Z H xs ds := by
  cases h with
  | tup n e r => exact ⟨_, _, rfl, .of e, r⟩
  | ktup e r => exact ⟨_, _, rfl, sq_emp e, r⟩
theorem rp_lst {ds : List D} (h : Rp K CA dr Z H v (.lst ds)) : ∃ a xs, v = .ref a ∧ H a = some (.lst xs) ∧ a ∉ Z ∧ RpAll K CA dr Z H xs ds := by
  cases h with
  | lst n e r => exact ⟨_, _, rfl, e, n, r⟩
theorem rp_dct {ds : List (Key × D)} (h : Rp K CA dr Z H v (.dct ds)) : ∃ a kvs, v = .ref a ∧ H a = some (.dK kvs) ∧ a ∉ Z ∧ kvs.map (·.1) = ds.map (·.1) ∧ RpAll K CA dr Z H (kvs.map (·.2)) (ds.map (·.2)) := by
  cases h with
  | dct n e en r => exact ⟨_, _, rfl, e, n, en, r⟩
theorem rp_key {y : D} {k : Key} (h : Rp K CA dr Z H v y) (e : keyD y = some k) : v = kV k := by
  cases h <;> first | (cases e; rfl) | cases e
theorem rp_dget {k : Key} : ∀ {kvs : List (Key × V)} {ds : List (Key × D)}, kvs.map (·.1) = ds.map (·.1) → RpAll K CA dr Z H (kvs.map (·.2)) (ds.map (·.2)) →
    (∃ v d, valV kvs k = some v ∧ dGet ds k = some d ∧ Rp K CA dr Z H v d) ∨ (valV kvs k = none ∧ dGet ds k = none)
  | [], [], _, _ => .inr ⟨rfl, rfl⟩
  | [], _ :: _, e, _ => by simp at e
  | _ :: _, [], e, _ => by simp at e
  | p :: kvs, q :: ds, e, r => by
    obtain ⟨pk, pv⟩ := p
    obtain ⟨qk, qv⟩ := q
    simp only [List.map_cons, List.cons.injEq] at e
    obtain ⟨e1, e2⟩ := e
    subst e1
    cases r with
    | cons r1 r2 =>
      by_cases h : pk = k
      · subst h
        exact .inl ⟨pv, qv, by simp [valV], by simp [dGet], r1⟩
      · rcases rp_dget (k := k) e2 r2 with ⟨v, d, h1, h2, h3⟩ | ⟨h1, h2⟩
        · exact .inl ⟨v, d, by rw [valV_neg h]; exact h1, by simp only [dGet, List.find?_cons, decide_eq_false h]; exact h2, h3⟩
        · exact .inr ⟨by rw [valV_neg h]; exact h1, by simp only [dGet, List.find?_cons, decide_eq_false h]; exact h2⟩
theorem keys_any {κ α β : Type} {k : κ} [DecidableEq κ] : ∀ {kvs : List (κ × α)} {ds : List (κ × β)}, kvs.map (·.1) = ds.map (·.1) → (kvs.any fun kv => decide (kv.1 = k)) = (ds.any fun kv => decide (kv.1 = k))
  | [], [], _ => rfl
  | [], _ :: _, e => by simp at e
  | _ :: _, [], e => by simp at e
  | p :: kvs, q :: ds, e => by
    simp only [List.map_cons, List.cons.injEq] at e
    rw [List.any_cons, List.any_cons, e.1, keys_any e.2]
theorem rp_dput {k : Key} {kvs : List (Key × V)} {ds : List (Key × D)} (e : kvs.map (·.1) = ds.map (·.1)) (r : RpAll K CA dr Z H (kvs.map (·.2)) (ds.map (·.2))) (h : Rp K CA dr Z H v d) :
    (putK kvs k v).map (·.1) = (dPut ds k d).map (·.1) ∧ RpAll K CA dr Z H ((putK kvs k v).map (·.2)) ((dPut ds k d).map (·.2)) := by
  unfold putK dPut
  rw [keys_any e]
  by_cases q : (ds.any fun kv => decide (kv.1 = k)) = true
  · rw [if_pos q, if_pos q]
    clear q
    induction kvs generalizing ds with
    | nil => cases ds with
      | nil => exact ⟨rfl, .nil⟩
      | cons => simp at e
    | cons p kvs ih => cases ds with
      | nil => simp at e
      | cons q ds =>
        simp only [List.map_cons, List.cons.injEq] at e
        cases r with
        | cons r1 r2 =>
          obtain ⟨i1, i2⟩ := ih e.2 r2
          simp only [List.map_cons]
          by_cases hk : q.1 = k
          · rw [if_pos (e.1.trans hk), if_pos hk]
            exact ⟨by rw [i1, e.1], .cons h i2⟩
          · rw [if_neg (fun z => hk (e.1.symm.trans z)), if_neg hk]
            exact ⟨by rw [i1, e.1], .cons r1 i2⟩
  · rw [if_neg q, if_neg q]
    simp only [List.map_append, List.map_cons, List.map_nil]
    exact ⟨by rw [e], r.append (.cons h .nil)⟩
theorem dPut_length (ds : List (Key × D)) (k : Key) (d : D) : (dPut ds k d).length ≤ ds.length + 1 := by
  unfold dPut
  split <;> simp
/-- the type of a value of plain data -/
theorem rp_ty {n : String} (h : Rp K CA dr Z H v d) (e : tyN d = some n) : TyX K H v (.type n) := by
  cases h with
  | non => cases e; exact .base .non
  | bl b => cases e; exact .base (.bl b)
  | int b => cases e; exact .base (.int b)
  | str b => cases e; exact .base (.str b)
  | lst _ q _ => cases e; exact .base (.lst q)
  | tup _ q _ => cases e; exact .base (.tup q)
  | ktup q _ =>
    cases e
    rcases q with q | ⟨o, its, n, hk, hc, _⟩
    · rcases q with q | ⟨o, q⟩ <;> cases q
    · exact .kTuple hk hc
  | dct _ q _ _ => cases e; exact .base (.dK q)
  | obj => cases e
  | scr => cases e
  | kscr => cases e
  | draw => cases e
  | ty => cases e
  | cls => cases e
  | me => cases e
end

/-! ### data as the library's -/
section
variable {K : PySem.W.Frag} {CA : Nat → Addr} {dr : Option Addr} {Z : List Addr} {H : Hp}
mutual
theorem rp_dp : ∀ (d : D) (v : V) (p : PyData), Rp K CA dr Z H v d → toP d = some p → Dp K H v p
  | .non, _, _, h, e => by cases h; simp only [toP, Option.some.injEq] at e; subst e; exact .non
  | .bl b, _, _, h, e => by cases h; simp only [toP, Option.some.injEq] at e; subst e; exact .bl b
  | .int b, _, _, h, e => by cases h; simp only [toP, Option.some.injEq] at e; subst e; exact .int b
  | .str b, _, _, h, e => by cases h; simp only [toP, Option.some.injEq] at e; subst e; exact .str b
  | .lst ds, _, _, h, e => by
    simp only [toP] at e
    cases q : toPs ds with
    | none => rw [q] at e; cases e
    | some ps =>
      rw [q] at e
      simp only [Option.map_some, Option.some.injEq] at e
      subst e
      obtain ⟨a, xs, rfl, e1, _, r⟩ := rp_lst h
      exact .lst (.of e1) (rp_dps ds xs ps r q)
  | .tup ds, _, _, h, e => by
    simp only [toP] at e
    cases q : toPs ds with
    | none => rw [q] at e; cases e
    | some ps =>
      rw [q] at e
      simp only [Option.map_some, Option.some.injEq] at e
      subst e
      obtain ⟨a, xs, rfl, e1, r⟩ := rp_tup h
      exact .tup e1 (rp_dps ds xs ps r q)
  | .dct _, _, _, _, e => by simp [toP] at e
  | .obj _ _, _, _, _, e => by simp [toP] at e
  | .scr _, _, _, _, e => by simp [toP] at e
  | .draw, _, _, _, e => by simp [toP] at e
  | .ty _, _, _, _, e => by simp [toP] at e
  | .cls _, _, _, _, e => by simp [toP] at e
  | .me _, _, _, _, e => by simp [toP] at e
theorem rp_dps : ∀ (ds : List D) (vs : List V) (ps : List PyData), RpAll K CA dr Z H vs ds → toPs ds = some ps → DpAll K H vs ps
  | [], _, _, h, e => by cases h; simp only [toPs, Option.some.injEq] at e; subst e; exact .nil
  | d :: ds, _, _, h, e => by
    cases h with
    | cons h1 h2 =>
      simp only [toPs] at e
      cases q1 : toP d with
      | none => rw [q1] at e; cases e
      | some p =>
        cases q2 : toPs ds with
        | none => rw [q1, q2] at e; cases e
        | some ps =>
          rw [q1, q2] at e
          simp only [Option.some.injEq] at e
          subst e
          exact .cons (rp_dp d _ p h1 q1) (rp_dps ds _ ps h2 q2)
end
end
mutual
theorem eqv_eqD : ∀ (d e : D) (p q : PyData), toP d = some p → toP e = some q → PyData.eqv p q = eqD d e
  | .non, e, _, q, h, h' => by
    simp only [toP, Option.some.injEq] at h; subst h
    cases e <;> simp only [toP, Option.some.injEq, Option.map_eq_some_iff, reduceCtorEq] at h' <;> first | (subst h'; rfl) | (obtain ⟨_, _, h'⟩ := h'; subst h'; rfl)
  | .bl _, e, _, q, h, h' => by
    simp only [toP, Option.some.injEq] at h; subst h
    cases e <;> simp only [toP, Option.some.injEq, Option.map_eq_some_iff, reduceCtorEq] at h' <;> first | (subst h'; rfl) | (obtain ⟨_, _, h'⟩ := h'; subst h'; rfl)
  | .int _, e, _, q, h, h' => by
    simp only [toP, Option.some.injEq] at h; subst h
    cases e <;> simp only [toP, Option.some.injEq, Option.map_eq_some_iff, reduceCtorEq] at h' <;> first | (subst h'; rfl) | (obtain ⟨_, _, h'⟩ := h'; subst h'; rfl)
  | .str _, e, _, q, h, h' => by
    simp only [toP, Option.some.injEq] at h; subst h
    cases e <;> simp only [toP, Option.some.injEq, Option.map_eq_some_iff, reduceCtorEq] at h' <;> first | (subst h'; rfl) | (obtain ⟨_, _, h'⟩ := h'; subst h'; rfl)
  | .lst ds, e, _, q, h, h' => by
    simp only [toP, Option.map_eq_some_iff] at h
    obtain ⟨ps, h1, rfl⟩ := h
    cases e with
    | lst es =>
      simp only [toP, Option.map_eq_some_iff] at h'
      obtain ⟨qs, h2, rfl⟩ := h'
      simp only [PyData.eqv, eqD]
      exact eqvs_eqDs ds es ps qs h1 h2
    | _ => simp only [toP, Option.some.injEq, Option.map_eq_some_iff, reduceCtorEq] at h' <;> first | (subst h'; rfl) | (obtain ⟨_, _, h'⟩ := h'; subst h'; rfl)
  | .tup ds, e, _, q, h, h' => by
    simp only [toP, Option.map_eq_some_iff] at h
    obtain ⟨ps, h1, rfl⟩ := h
    cases e with
    | tup es =>
      simp only [toP, Option.map_eq_some_iff] at h'
      obtain ⟨qs, h2, rfl⟩ := h'
      simp only [PyData.eqv, eqD]
      exact eqvs_eqDs ds es ps qs h1 h2
    | _ => simp only [toP, Option.some.injEq, Option.map_eq_some_iff, reduceCtorEq] at h' <;> first | (subst h'; rfl) | (obtain ⟨_, _, h'⟩ := h'; subst h'; rfl)
  | .dct _, _, _, _, h, _ => by simp [toP] at h
  | .obj _ _, _, _, _, h, _ => by simp [toP] at h
  | .scr _, _, _, _, h, _ => by simp [toP] at h
  | .draw, _, _, _, h, _ => by simp [toP] at h
  | .ty _, _, _, _, h, _ => by simp [toP] at h
  | .cls _, _, _, _, h, _ => by simp [toP] at h
  | .me _, _, _, _, h, _ => by simp [toP] at h
theorem eqvs_eqDs : ∀ (ds es : List D) (ps qs : List PyData), toPs ds = some ps → toPs es = some qs → PyData.eqvAll ps qs = eqDs ds es
  | [], [], _, _, h, h' => by simp only [toPs, Option.some.injEq] at h h'; subst h h'; rfl
  | [], e :: es, _, _, h, h' => by
    simp only [toPs, Option.some.injEq] at h; subst h
    simp only [toPs] at h'
    split at h'
    · simp only [Option.some.injEq] at h'; subst h'; rfl
    · cases h'
  | d :: ds, [], _, _, h, h' => by
    simp only [toPs, Option.some.injEq] at h'; subst h'
    simp only [toPs] at h
    split at h
    · simp only [Option.some.injEq] at h; subst h; rfl
    · cases h
  | d :: ds, e :: es, _, _, h, h' => by
    simp only [toPs] at h h'
    split at h
    · split at h'
      · rename_i p ps h1 h2 _ _ q qs h3 h4
        simp only [Option.some.injEq] at h h'
        subst h h'
        simp only [PyData.eqvAll, eqDs]
        rw [eqv_eqD d e p q h1 h3, eqvs_eqDs ds es ps qs h2 h4]
      · cases h'
    · cases h
end

/-! ### operations -/
/-- + -/
def fAdd : D → D → (D → Prop) → Prop
  | .int i, .int j, Q => Q (.int (i + j))
  | .lst a, .lst b, Q => a.length + b.length ≤ sizeLine ∧ Q (.lst (a ++ b))
  | .tup a, .tup b, Q => a ≠ [] ∧ a.length + b.length ≤ sizeLine ∧ Q (.tup (a ++ b))
  | .str a, .str b, Q => a.length + b.length ≤ sizeLine ∧ Q (.str (a ++ b))
  | _, _, _ => False
def fI (C : Int → Int → Prop) (f : Int → Int → Int) : D → D → (D → Prop) → Prop
  | .int i, .int j, Q => C i j ∧ Q (.int (f i j))
  | _, _, _ => False
def fB (f : Int → Int → Bool) : D → D → (D → Prop) → Prop
  | .int i, .int j, Q => Q (.bl (f i j))
  | _, _, _ => False
def fEq (neg : Bool) : D → D → (D → Prop) → Prop := fun x y Q => (scalD x y = true ∨ (EqOk x ∧ EqOk y)) ∧ Q (.bl (if neg then !eqD x y else eqD x y))
def fIsN (neg : Bool) : D → D → (D → Prop) → Prop := fun x y Q => y = .non ∧ Q (.bl (if neg then !(match x with | .non => true | _ => false) else (match x with | .non => true | _ => false)))
/-- x in y -/
def fIn (neg : Bool) : D → D → (D → Prop) → Prop
  | x, .lst ds, Q => flatD x = true ∧ ds.all flatD = true ∧ Q (.bl (if neg then !(ds.any fun e => eqD e x) else ds.any fun e => eqD e x))
  | x, .tup ds, Q => flatD x = true ∧ ds.all flatD = true ∧ Q (.bl (if neg then !(ds.any fun e => eqD e x) else ds.any fun e => eqD e x))
  | x, .dct kvs, Q => ∃ k, keyD x = some k ∧ Q (.bl (if neg then !(dGet kvs k).isSome else (dGet kvs k).isSome))
  | _, _, _ => False
/-- x[y] -/
def fSub : D → D → (D → Prop) → Prop
  | .lst ds, .int i, Q => ∃ v, atI ds i = some v ∧ Q v
  | .tup ds, .int i, Q => ∃ v, atI ds i = some v ∧ Q v
  | .dct kvs, y, Q => ∃ k v, keyD y = some k ∧ dGet kvs k = some v ∧ Q v
  | .str z, .int i, Q => z.length ≤ sizeLine ∧ ∃ c, atI z.cps.toList i = some c ∧ Q (.str ⟨#[c]⟩)
  | _, _, _ => False
section
variable {X : Cx} {K : PySem.W.Frag} {CA : Nat → Addr}
theorem sim_add : SimR K CA (fun x y H Q => (rI0 (fun i j => .int (i + j)) x y H Q) ∨ (rCat x y H Q) ∨ (rCatT K x y H Q) ∨ (∃ i j, x = .str i ∧ y = .str j ∧ i.length + j.length ≤ sizeLine ∧ Q (.str (i ++ j)) H)) fAdd := by
  intro g Zc Z H x y dx dy Q Q' o rx ry dv t
  cases dx <;> cases dy <;> first
    | exact t.elim
    | (cases rx; cases ry; exact .inl ⟨_, _, rfl, rfl, dv.here o (.int _) t⟩)
    | (cases rx; cases ry; exact .inr (.inr (.inr ⟨_, _, rfl, rfl, t.1, dv.here o (.str _) t.2⟩)))
    | skip
  · obtain ⟨a, xs, rfl, e1, _, r1⟩ := rp_lst rx
    obtain ⟨b, ys, rfl, e2, _, r2⟩ := rp_lst ry
    refine .inr (.inl ⟨a, b, xs, ys, rfl, rfl, e1, e2, by rw [r1.length, r2.length]; exact t.1, fun p n => ?_⟩)
    exact dv.made o n (.lst (o.fresh n) upd_same ((rp_new o n r1).append (rp_new o n r2))) t.2
  · obtain ⟨a, xs, rfl, e1, r1⟩ := rp_tup rx
    obtain ⟨b, ys, rfl, e2, r2⟩ := rp_tup ry
    refine .inr (.inr (.inl ⟨a, b, xs, ys, rfl, rfl, e1, e2, fun z => t.1 ?_, by rw [r1.length, r2.length]; exact t.2.1, fun z => ?_, fun _ p n => ?_⟩))
    · subst z; cases r1; rfl
    · subst z; cases r2
      have q := t.2.2
      rw [List.append_nil] at q
      exact dv.here o rx q
    · exact dv.made o n (.tup (o.fresh n) upd_same ((rp_new o n r1).append (rp_new o n r2))) t.2.2
theorem op_addU (hK : X.K = K := by rfl) : OpR X (binaryOp .Add) (fun x y H Q => (rI0 (fun i j => .int (i + j)) x y H Q) ∨ (rCat x y H Q) ∨ (rCatT K x y H Q) ∨ (∃ i j, x = .str i ∧ y = .str j ∧ i.length + j.length ≤ sizeLine ∧ Q (.str (i ++ j)) H)) :=
  by subst hK; exact op_add.or (op_cat.or (op_catT.or op_add_str))
theorem sim_I {C : Int → Int → Prop} {f : Int → Int → Int} : SimR K CA (rI C fun i j => .int (f i j)) (fI C f) := by
  intro g Zc Z H x y dx dy Q Q' o rx ry dv t
  cases dx <;> cases dy <;> first
    | exact t.elim
    | (cases rx; cases ry; exact ⟨_, _, rfl, rfl, t.1, dv.here o (.int _) t.2⟩)
theorem sim_I0 {f : Int → Int → Int} : SimR K CA (rI0 fun i j => .int (f i j)) (fI (fun _ _ => True) f) := by
  intro g Zc Z H x y dx dy Q Q' o rx ry dv t
  cases dx <;> cases dy <;> first
    | exact t.elim
    | (cases rx; cases ry; exact ⟨_, _, rfl, rfl, dv.here o (.int _) t.2⟩)
theorem sim_cB {f : Int → Int → Bool} : SimR K CA (rI0 fun i j => .bl (f i j)) (fB f) := by
  intro g Zc Z H x y dx dy Q Q' o rx ry dv t
  cases dx <;> cases dy <;> first
    | exact t.elim
    | (cases rx; cases ry; exact ⟨_, _, rfl, rfl, dv.here o (.bl _) t⟩)
theorem sim_eq : SimR K CA (fun x y H Q => rEq x y H Q ∨ rEqD K x y H Q) (fEq false) := by
  intro g Zc Z H x y dx dy Q Q' o rx ry dv t
  obtain ⟨c, q⟩ := t
  rcases c with c | ⟨⟨p, h1, h2⟩, ⟨p', h3, h4⟩⟩
  · obtain ⟨s, e⟩ := rp_scal rx ry c
    exact .inl ⟨s, by rw [e]; exact dv.here o (.bl _) q⟩
  · refine .inr ⟨p, p', rp_dp dx x p rx h1, rp_dp dy y p' ry h3, h2, h4, ?_⟩
    rw [eqv_eqD dx dy p p' h1 h3]
    exact dv.here o (.bl _) q
theorem op_eqU (hu : X.A.units + 64 < cLine) (hK : X.K = K := by rfl) : OpR X (compareOp .Eq) (fun x y H Q => rEq x y H Q ∨ rEqD K x y H Q) := by subst hK; exact op_eq.or (op_eqD hu)
theorem sim_ne : SimR K CA (fun x y H Q => rNe x y H Q ∨ rNeD K x y H Q) (fEq true) := by
  intro g Zc Z H x y dx dy Q Q' o rx ry dv t
  obtain ⟨c, q⟩ := t
  rcases c with c | ⟨⟨p, h1, h2⟩, ⟨p', h3, h4⟩⟩
  · obtain ⟨s, e⟩ := rp_scal rx ry c
    exact .inl ⟨s, by rw [e]; exact dv.here o (.bl _) q⟩
  · refine .inr ⟨p, p', rp_dp dx x p rx h1, rp_dp dy y p' ry h3, h2, h4, ?_⟩
    rw [eqv_eqD dx dy p p' h1 h3]
    exact dv.here o (.bl _) q
theorem op_neU (hu : X.A.units + 64 < cLine) (hK : X.K = K := by rfl) : OpR X (compareOp .NotEq) (fun x y H Q => rNe x y H Q ∨ rNeD K x y H Q) := by subst hK; exact op_ne.or (op_neD hu)
theorem sim_isN : SimR K CA (fun x y H Q => y = .non ∧ Q (.bl (decide (x = .non))) H) (fIsN false) := by
  intro g Zc Z H x y dx dy Q Q' o rx ry dv t
  obtain ⟨rfl, q⟩ := t
  cases ry
  refine ⟨rfl, ?_⟩
  cases rx <;> exact dv.here o (.bl _) q
theorem sim_notN : SimR K CA (fun x y H Q => y = .non ∧ Q (.bl (!decide (x = .non))) H) (fIsN true) := by
  intro g Zc Z H x y dx dy Q Q' o rx ry dv t
  obtain ⟨rfl, q⟩ := t
  cases ry
  refine ⟨rfl, ?_⟩
  cases rx <;> exact dv.here o (.bl _) q
def rDIn (neg : Bool) : R2 := fun y x H Q => ∃ a o, x = .ref a ∧ DGet H a y o ∧ Q (.bl (if neg then !o.isSome else o.isSome)) H
theorem op_inDct (hu : X.A.units + 1 < cLine) : OpR X (compareOp .In) (rDIn false) := by
  intro pins s σ H y x u v Q I ry rx h
  obtain ⟨a, o, rfl, g, q⟩ := h
  cases rx
  exact d_in hu I g ry fun s3 I3 => ⟨.bl o.isSome, H, I3, rfl, q⟩
theorem op_notInDct (hu : X.A.units + 1 < cLine) : OpR X (compareOp .NotIn) (rDIn true) := by
  intro pins s σ H y x u v Q I ry rx h
  obtain ⟨a, o, rfl, g, q⟩ := h
  cases rx
  exact d_notIn hu I g ry fun s3 I3 => ⟨.bl (!o.isSome), H, I3, rfl, q⟩
theorem sim_in {neg : Bool} : SimR K CA (fun x y H Q => rIn K neg x y H Q ∨ rDIn neg x y H Q) (fIn neg) := by
  intro g Zc Z H x y dx dy Q Q' o rx ry dv t
  cases dy with
  | lst ds =>
    obtain ⟨f, fs, q⟩ := t
    obtain ⟨a, xs, rfl, e1, _, r1⟩ := rp_lst ry
    refine .inl ⟨a, xs, rfl, .inl (.of e1), rp_flat rx f, rp_flats r1 fs, ?_⟩
    rw [rp_inV r1 rx fs f]
    exact dv.here o (.bl _) q
  | tup ds =>
    obtain ⟨f, fs, q⟩ := t
    obtain ⟨a, xs, rfl, e1, r1⟩ := rp_tup ry
    refine .inl ⟨a, xs, rfl, .inr e1, rp_flat rx f, rp_flats r1 fs, ?_⟩
    rw [rp_inV r1 rx fs f]
    exact dv.here o (.bl _) q
  | dct kvs =>
    obtain ⟨k, e, q⟩ := t
    obtain ⟨a, hk, rfl, e1, _, en, r⟩ := rp_dct ry
    have ek := rp_key rx e
    subst ek
    refine .inr ⟨a, valV hk k, rfl, DGet.k e1, ?_⟩
    rcases rp_dget (k := k) en r with ⟨v, d, h1, h2, _⟩ | ⟨h1, h2⟩
    · rw [h1]; rw [h2] at q; exact dv.here o (.bl _) q
    · rw [h1]; rw [h2] at q; exact dv.here o (.bl _) q
  | _ => exact t.elim
theorem op_inU (hu : X.A.units + 1 < cLine) (hK : X.K = K := by rfl) : OpR X (compareOp .In) (fun x y H Q => rIn K false x y H Q ∨ rDIn false x y H Q) := by subst hK; exact op_in_seq.or (op_inDct hu)
theorem op_notInU (hu : X.A.units + 1 < cLine) (hK : X.K = K := by rfl) : OpR X (compareOp .NotIn) (fun x y H Q => rIn K true x y H Q ∨ rDIn true x y H Q) := by subst hK; exact op_notIn_seq.or (op_notInDct hu)
theorem ix_dct (hu : X.A.units + 1 < cLine) : IxR X (fun x y H Q => ∃ a v, x = .ref a ∧ DGet H a y (some v) ∧ Q v H) := by
  intro value slice pins s σ H x y v u Q I rx ry h hs
  obtain ⟨a, z, rfl, g, q⟩ := h
  cases rx
  exact tail_any (dict_typeIs I g) PySem.F.slot_dict_getitem.lookup (d_getItem hu I g ry fun w' s3 I3 rw' => ⟨z, H, I3, rw', q⟩) hs
theorem ixU (hu : X.A.units + 1 < cLine) (hK : X.K = K := by rfl) : IxR X (fun x y H Q => rIx K x y H Q ∨ ∃ a v, x = .ref a ∧ DGet H a y (some v) ∧ Q v H) := by subst hK; exact ix_seq.or (ix_dct hu)
theorem atI_rp {dr : Option Addr} {Z : List Addr} {H : Hp} {vs : List V} {ds : List D} {i : Int} {d : D} (r : RpAll K CA dr Z H vs ds) (e : atI ds i = some d) : ∃ v, atI vs i = some v ∧ Rp K CA dr Z H v d := by
  unfold atI at e ⊢
  rw [r.length]
  cases q : ixN ds.length i with
  | none => rw [q] at e; cases e
  | some j =>
    rw [q] at e
    exact r.getD e
theorem sim_sub : SimR K CA (fun x y H Q => rIx K x y H Q ∨ ∃ a v, x = .ref a ∧ DGet H a y (some v) ∧ Q v H) fSub := by
  intro g Zc Z H x y dx dy Q Q' o rx ry dv t
  cases dx with
  | lst ds => cases dy with
    | int i =>
      obtain ⟨v, e, q⟩ := t
      obtain ⟨a, xs, rfl, e1, _, r1⟩ := rp_lst rx
      cases ry
      obtain ⟨w, e2, r2⟩ := atI_rp r1 e
      exact .inl (.inl ⟨a, xs, i, w, rfl, rfl, .of e1, e2, dv.here o r2 q⟩)
    | _ => exact t.elim
  | tup ds => cases dy with
    | int i =>
      obtain ⟨v, e, q⟩ := t
      obtain ⟨a, xs, rfl, e1, r1⟩ := rp_tup rx
      cases ry
      obtain ⟨w, e2, r2⟩ := atI_rp r1 e
      exact .inl (.inr (.inl ⟨a, xs, i, w, rfl, rfl, e1, e2, dv.here o r2 q⟩))
    | _ => exact t.elim
  | str z => cases dy with
    | int i =>
      obtain ⟨hz, c, e, q⟩ := t
      cases rx
      cases ry
      exact .inl (.inr (.inr ⟨z, i, c, rfl, rfl, hz, e, dv.here o (.str _) q⟩))
    | _ => exact t.elim
  | dct kvs =>
    have t' : ∃ k v, keyD dy = some k ∧ dGet kvs k = some v ∧ Q v := t
    obtain ⟨k, v, ek, eg, q⟩ := t'
    obtain ⟨a, hk, rfl, e1, _, en, r⟩ := rp_dct rx
    have e2 := rp_key ry ek
    subst e2
    rcases rp_dget (k := k) en r with ⟨w, d, h1, h2, h3⟩ | ⟨_, h2⟩
    · rw [h2] at eg
      cases eg
      refine .inr ⟨a, w, rfl, ?_, dv.here o h3 q⟩
      rw [← h1]
      exact DGet.k e1
    · rw [h2] at eg; cases eg
  | _ => exact t.elim
end
end WM
namespace WM
open PySem PySem.Spec PyProof.Rows L2

/-! ### statements -/
/-- what stands outside the zone stands on, outside the zone -/
def Stp (Z : List Addr) (H : Hp) (Z' : List Addr) (H' : Hp) : Prop := ∀ b o, b ∉ Z → H b = some o → b ∉ Z' ∧ H' b = some o
theorem Stp.refl {Z : List Addr} {H : Hp} : Stp Z H Z H := fun _ _ n e => ⟨n, e⟩
theorem Stp.trans {Z Z1 Z2 : List Addr} {H H1 H2 : Hp} (a : Stp Z H Z1 H1) (b : Stp Z1 H1 Z2 H2) : Stp Z H Z2 H2 := fun x o n e => let ⟨n1, e1⟩ := a x o n e; b x o n1 e1
section
variable (K : PySem.W.Frag) (CA : Nat → Addr) (W : WX)
structure DomS (g : Gd) (Zc : List Addr) (H0 : Hp) (Z : List Addr) (H : Hp) (DD : DEnds) (D' : Ends) : Prop where
  nx : ∀ Z' H' σ ρ n, Stp Z H Z' H' → Fr (g.at n) Zc H0 Z' H' → SO K CA (g.at n) Zc Z' H' σ ρ → DD.nx ρ n → D'.nx σ H'
  rt : ∀ v H' d n, Ag g.Z0 H0 H' → (g.at n).Wd H' → Rp K CA g.dr Zc H' v d → DD.rt d n → D'.rt v H'
  bk : ∀ Z' H' σ ρ n, Stp Z H Z' H' → Fr (g.at n) Zc H0 Z' H' → SO K CA (g.at n) Zc Z' H' σ ρ → DD.bk ρ n → D'.bk σ H'
  ct : ∀ Z' H' σ ρ n, Stp Z H Z' H' → Fr (g.at n) Zc H0 Z' H' → SO K CA (g.at n) Zc Z' H' σ ρ → DD.ct ρ n → D'.ct σ H'
  ex : ∀ cls dd Z' H' σ ρ c fs n, Stp Z H Z' H' → Fr (g.at n) Zc H0 Z' H' → SO K CA (g.at n) Zc Z' H' σ ρ → XR K CA g.dr Z' H' cls dd c fs → DD.ex ρ c fs n → W cls dd σ H'
def SimS (tS : TS) (u : SD) : Prop := ∀ (g : Gd) (Zc : List Addr) (H0 : Hp) (Z : List Addr) (H : Hp) (σ : L2.St) (ρ : DE) (DD : DEnds) (D' : Ends), Fr g Zc H0 Z H → SO K CA g Zc Z H σ ρ → DomS K CA W g Zc H0 Z H DD D' → u DD ρ g.b → tS D' σ H
end
section
variable (X : Cx) (K : PySem.W.Frag) (CA : Nat → Addr) (W : WX)
structure WS (st : Stmt) (tS : TS) (u : SD) : Prop where
  pe : PS X st tS
  sim : SimS K CA W tS u
structure WSs (st : List Stmt) (tS : TS) (u : SD) : Prop where
  pe : PSs X st tS
  sim : SimS K CA W tS u
end
section
variable {K : PySem.W.Frag} {CA : Nat → Addr} {W : WX} {g : Gd} {Zc Z Z1 : List Addr} {H0 H H1 : Hp} {DD : DEnds} {D' : Ends} {σ : L2.St} {ρ : DE}
theorem DomS.from {n : Nat} (d : DomS K CA W g Zc H0 Z H DD D') (s : Stp Z H Z1 H1) : DomS K CA W (g.at n) Zc H0 Z1 H1 DD D' :=
  ⟨fun Z' H' σ ρ m a => d.nx Z' H' σ ρ m (s.trans a), d.rt, fun Z' H' σ ρ m a => d.bk Z' H' σ ρ m (s.trans a), fun Z' H' σ ρ m a => d.ct Z' H' σ ρ m (s.trans a), fun cls dd Z' H' σ ρ c fs m a => d.ex cls dd Z' H' σ ρ c fs m (s.trans a)⟩
theorem GO.stp (o : GO g Zc Z H) (k : Ag g.Z0 H H1) : Stp Z H Z H1 := fun b u n e => ⟨n, o.agZ k b u n e⟩
/-- an expression's exception, wished by the statement -/
theorem DomS.domX (d : DomS K CA W g Zc H0 Z H DD D') (F : Fr g Zc H0 Z H) (S : SO K CA g Zc Z H σ ρ) : DomX K CA W g Z H (DD.ex ρ) σ := fun cls dd H' c fs n a w r q =>
  d.ex cls dd Z H' σ ρ c fs n (S.go.stp a) (F.ag' a) (S.ag a w) r q
end

def dNext : SD := fun DD ρ => DD.nx ρ
def dSeq (u w : SD) : SD := fun DD ρ => u { DD with nx := fun ρ' => w DD ρ' } ρ
def dIfS (c : TB) (u w : SD) : SD := fun DD ρ => c ρ (fun b n => if b = true then u DD ρ n else w DD ρ n) (DD.ex ρ)
def dRet (t : TD) : SD := fun DD ρ => t ρ DD.rt (DD.ex ρ)
def dRetN : SD := fun DD _ => DD.rt .non
def dBreak : SD := fun DD ρ => DD.bk ρ
def dCont : SD := fun DD ρ => DD.ct ρ
def dDrop (t : TD) : SD := fun DD ρ => t ρ (fun _ => DD.nx ρ) (DD.ex ρ)
def dNever : SD := fun _ _ _ => False
/-- a slot is shared from here on -/
def dShare (i : Nat) (u : SD) : SD := fun DD ρ n => ∃ d, ρ[i]? = some (some (.ow d)) ∧ u DD (ρ.set i (some (.sh d))) n
abbrev TGD := D → DE → (DE → NP) → NP
abbrev TGDs := List D → DE → (DE → NP) → NP
def gdName (i : Nat) : TGD := fun d ρ Q => Q (ρ.set i (some (.sh d)))
def gdNil : TGDs := fun ds ρ Q n => ds = [] ∧ Q ρ n
def gdCons (t : TGD) (u : TGDs) : TGDs := fun ds ρ Q n => ∃ d r, ds = d :: r ∧ t d ρ (fun ρ' => u r ρ' Q) n
def gdTup (n : Nat) (t : TGDs) : TGD := fun d ρ Q m => ∃ ds, d = .tup ds ∧ ds.length = n ∧ t ds ρ Q m
def dAsg (t : TD) (tg : TGD) : SD := fun DD ρ => t ρ (fun d => tg d ρ DD.nx) (DD.ex ρ)
def dPar (i j : Nat) (ts : TDs) : SD := fun DD ρ => ts ρ (fun ds n => ∃ x y, ds = [x, y] ∧ DD.nx ((ρ.set i (some (.sh x))).set j (some (.sh y))) n) (DD.ex ρ)
def dPar3 (i j l : Nat) (ts : TDs) : SD := fun DD ρ => ts ρ (fun ds n => ∃ x y z, ds = [x, y, z] ∧ DD.nx (((ρ.set i (some (.sh x))).set j (some (.sh y))).set l (some (.sh z))) n) (DD.ex ρ)
/-- for, over the items -/
def dForL (tg : TGD) (u : SD) (DD : DEnds) : List D → DE → NP
  | [], ρ => DD.nx ρ
  | d :: r, ρ => tg d ρ (fun ρ' => u { DD with nx := dForL tg u DD r, ct := dForL tg u DD r, bk := DD.nx } ρ')
def itemsD : D → Option (List D)
  | .lst ds => some ds
  | .tup ds => some ds
  | _ => none
/-- what is walked: the items -/
def dSeqI (t : TD) : TDs := fun ρ Q E => t ρ (fun d n => ∃ ds, itemsD d = some ds ∧ Q ds n) E
def rgD (a : Int) (n : Nat) : List D := (List.range n).map fun (i : Nat) => D.int (a + (i : Int))
def dRng1 (ts : TDs) : TDs := fun ρ Q E => ts ρ (fun ds m => ∃ n : Int, ds = [.int n] ∧ -(2 ^ 62) ≤ n ∧ n < 2 ^ 62 ∧ Q (rgD 0 n.toNat) m) E
def dRng2 (ts : TDs) : TDs := fun ρ Q E => ts ρ (fun ds m => ∃ a b : Int, ds = [.int a, .int b] ∧ (-(2 ^ 62) ≤ a ∧ a < 2 ^ 62 ∧ -(2 ^ 62) ≤ b ∧ b < 2 ^ 62) ∧ Q (rgD a (b - a).toNat) m) E
def enD : Nat → List D → List D
  | _, [] => []
  | i, d :: r => .tup [.int (i : Int), d] :: enD (i + 1) r
def dEnum (ts : TDs) : TDs := fun ρ Q E => ts ρ (fun ds m => ∃ xs, ds = [.lst xs] ∧ Q (enD 0 xs) m) E
def dFor (t : TDs) (tg : TGD) (u : SD) : SD := fun DD ρ => t ρ (fun ds => dForL tg u DD ds ρ) (DD.ex ρ)
def dWh (c : TB) (u : SD) (DD : DEnds) : Nat → DE → NP
  | 0, _ => fun _ => False
  | n + 1, ρ => c ρ (fun b m => if b = true then u { DD with nx := dWh c u DD n, ct := dWh c u DD n, bk := DD.nx } ρ m else DD.nx ρ m) (DD.ex ρ)
def dWhile (c : TB) (u : SD) : SD := fun DD ρ m => ∃ n, dWh c u DD n ρ m

section
variable {K : PySem.W.Frag} {CA : Nat → Addr} {W : WX} {t t' : TS} {u w : SD} {tH : TE} {tT : TT} {d : TD} {tB : TB}
theorem sim_next : SimS K CA W tNext dNext := fun g Zc H0 Z H σ ρ DD D' F S dm q => dm.nx Z H σ ρ _ .refl F S q
theorem sim_seq (h : SimS K CA W t u) (h' : SimS K CA W t' w) : SimS K CA W (tSeq t t') (dSeq u w) := fun g Zc H0 Z H σ ρ DD D' F S dm q =>
  h g Zc H0 Z H σ ρ { DD with nx := fun ρ' => w DD ρ' } { D' with nx := t' D' } F S ⟨fun Z' H' σ' ρ' n a F' S' q' => h' _ Zc H0 Z' H' σ' ρ' DD D' F' S' (dm.from a) q', dm.rt, dm.bk, dm.ct, dm.ex⟩ q
theorem sim_ifS (hc : SimT K CA W tT tB) (h : SimS K CA W t u) (h' : SimS K CA W t' w) : SimS K CA W (tIfS tT t t') (dIfS tB u w) := fun g Zc H0 Z H σ ρ DD D' F S dm q =>
  hc g Zc Z H σ ρ _ _ _ S (fun b H1 nH1 a1 w1 q1 => by
    cases b with
    | true => exact h _ Zc H0 Z H1 σ ρ DD D' (F.ag' a1) (S.ag a1 w1) (dm.from (S.go.stp a1)) q1
    | false => exact h' _ Zc H0 Z H1 σ ρ DD D' (F.ag' a1) (S.ag a1 w1) (dm.from (S.go.stp a1)) q1) (dm.domX F S) q
theorem sim_ret (h : SimE K CA W tH d) : SimS K CA W (tRet tH) (dRet d) := fun g Zc H0 Z H σ ρ DD D' F S dm q =>
  h g Zc Z H σ ρ _ _ _ S (fun v H1 x nH1 a1 w1 r1 q1 => dm.rt v H1 x _ (F.ag.trans a1) w1 (r1.zone S.go.cz) q1) (dm.domX F S) q
theorem sim_drop (h : SimE K CA W tH d) : SimS K CA W (tDrop tH) (dDrop d) := fun g Zc H0 Z H σ ρ DD D' F S dm q =>
  h g Zc Z H σ ρ _ _ _ S (fun v H1 x nH1 a1 w1 r1 q1 => dm.nx Z H1 σ ρ _ (S.go.stp a1) (F.ag' a1) (S.ag a1 w1) q1) (dm.domX F S) q
theorem sim_share {i : Nat} (h : SimS K CA W t u) : SimS K CA W t (dShare i u) := fun g Zc H0 Z H σ ρ DD D' F S dm q => by
  obtain ⟨x, e, q⟩ := q
  obtain ⟨Z', sub, S'⟩ := S.share e
  exact h g Zc H0 Z' H σ _ DD D' ⟨F.ag, fun b hb => F.nz b (sub b hb)⟩ S' (dm.from fun b o n e => ⟨fun z => n (sub b z), e⟩) q
end
/-! ### targets -/
section
variable (K : PySem.W.Frag) (CA : Nat → Addr)
def SimG (sl : List Nat) (gH : TG) (tg : TGD) : Prop := ∀ (g : Gd) (Zc Z : List Addr) (H : Hp) (σ : L2.St) (ρ : DE) (v : V) (d : D) (Q : DE → NP) (Q' : L2.St → Hp → Prop), SO K CA g Zc Z H σ ρ → Rp K CA g.dr Z H v d →
  (∀ σ' ρ', SO K CA g Zc Z H σ' ρ' → Q ρ' g.b → σ'.length = σ.length → (∀ j, j ∉ sl → σ'[j]? = σ[j]?) → Q' σ' H) → tg d ρ Q g.b → gH v σ H Q'
def SimGs (sl : List Nat) (gH : TGs) (tg : TGDs) : Prop := ∀ (g : Gd) (Zc Z : List Addr) (H : Hp) (σ : L2.St) (ρ : DE) (vs : List V) (ds : List D) (Q : DE → NP) (Q' : L2.St → Hp → Prop), SO K CA g Zc Z H σ ρ → RpAll K CA g.dr Z H vs ds →
  (∀ σ' ρ', SO K CA g Zc Z H σ' ρ' → Q ρ' g.b → σ'.length = σ.length → (∀ j, j ∉ sl → σ'[j]? = σ[j]?) → Q' σ' H) → tg ds ρ Q g.b → gH vs σ H Q'
end
section
variable (X : Cx) (K : PySem.W.Frag) (CA : Nat → Addr)
structure WG (e : Expr) (sl : List Nat) (gH : TG) (tg : TGD) : Prop where
  pe : PG X e gH
  sim : SimG K CA sl gH tg
structure WGs (es : List Expr) (sl : List Nat) (gH : TGs) (tg : TGDs) : Prop where
  pe : PGs X es gH
  sim : SimGs K CA sl gH tg
end
section
variable {X : Cx} {K : PySem.W.Frag} {CA : Nat → Addr} {W : WX} {e a b c : Expr} {es : List Expr} {gH : TG} {tg : TGD} {gHs : TGs} {tgs : TGDs} {pos : Pos} {st : Stmt} {sts rest x y : List Stmt} {tu tw : TS} {u w : SD} {ha : TE} {ta : TD} {hs : TA} {ts : TDs} {hB : TT} {tB : TB}
theorem sim_gName {i : Nat} : SimG K CA [i] (gName i) (gdName i) := fun g Zc Z H σ ρ v d Q Q' S r k q => k _ _ (S.setSh i r) q (by simp) fun j hj => List.getElem?_set_ne (fun z => hj (by simp [z]))
theorem wg_name {i : Nat} (h : PG X e (gName i)) : WG X K CA e [i] (gName i) (gdName i) := ⟨h, sim_gName⟩
theorem wgs_nil : WGs X K CA [] [] gNil gdNil := ⟨pgs_nil, fun g Zc Z H σ ρ vs ds Q Q' S r k q => by
  obtain ⟨e, q⟩ := q
  subst e
  cases r
  exact ⟨rfl, k _ _ S q rfl fun _ _ => rfl⟩⟩
theorem wgs_cons {s1 s2 : List Nat} (h : WG X K CA e s1 gH tg) (h' : WGs X K CA es s2 gHs tgs) (hst : (assignEach (e :: es) X.env).map (·.2) = assign e X.env :: (assignEach es X.env).map (·.2) := by rfl) : WGs X K CA (e :: es) (s1 ++ s2) (gCons gH gHs) (gdCons tg tgs) := by
  refine ⟨pgs_cons h.pe h'.pe hst, fun g Zc Z H σ ρ vs ds Q Q' S r k q => ?_⟩
  obtain ⟨x, rr, rfl, q⟩ := q
  cases r with
  | @cons v vs _ _ r1 r2 => exact ⟨v, vs, rfl, h.sim g Zc Z H σ ρ v x _ _ S r1 (fun σ' ρ' S' q' l1 n1 => h'.sim g Zc Z H σ' ρ' vs rr Q Q' S' r2 (fun σ2 ρ2 S2 q2 l2 n2 => k σ2 ρ2 S2 q2 (l2.trans l1) fun j hj => (n2 j fun z => hj (List.mem_append_right _ z)).trans (n1 j fun z => hj (List.mem_append_left _ z))) q') q⟩
theorem wg_tup {n k : Nat} {sl : List Nat} (hc : X.calm = true) (h : WGs X K CA es sl gHs tgs) (hn : (assignEach es X.env).length = n := by rfl) (hst : (assignEach es X.env).findIdx? (·.1) = none := by rfl) (hK : X.K = K := by rfl) : WG X K CA (.Tuple es k pos) sl (gTup K n gHs) (gdTup n tgs) := by
  subst hK
  refine ⟨pg_tup hc h.pe hn hst, fun g Zc Z H σ ρ v d Q Q' S r k q => ?_⟩
  obtain ⟨ds, rfl, hl, q⟩ := q
  obtain ⟨a, xs, rfl, e1, r1⟩ := rp_tup r
  exact ⟨a, xs, rfl, e1, r1.length.trans hl, h.sim g Zc Z H σ ρ xs ds Q Q' S r1 k q⟩

/-! ### statements' rules -/
theorem wss_nil : WSs X K CA W [] tNext dNext := ⟨pss_nil, sim_next⟩
theorem wss_cons (h : WS X K CA W st tu u) (h' : WSs X K CA W rest tw w) : WSs X K CA W (st :: rest) (tSeq tu tw) (dSeq u w) := ⟨pss_cons h.pe h'.pe, sim_seq h.sim h'.sim⟩
theorem wss_one (h : WS X K CA W st tu u) : WSs X K CA W [st] tu u := ⟨pss_one h.pe, h.sim⟩
theorem wss_share (i : Nat) (h : WSs X K CA W sts tu u) : WSs X K CA W sts tu (dShare i u) := ⟨h.pe, sim_share h.sim⟩
theorem wss_never : WSs X K CA W sts tNever dNever := ⟨pss_never, fun g Zc H0 Z H σ ρ DD D' F S dm q => q.elim⟩
theorem ws_never : WS X K CA W st tNever dNever := ⟨ps_never, fun g Zc H0 Z H σ ρ DD D' F S dm q => q.elim⟩
theorem ws_pass : WS X K CA W (.Pass pos) tNext dNext := ⟨ps_pass, sim_next⟩
theorem ws_break : WS X K CA W (.Break pos) tBreak dBreak := ⟨ps_break, fun g Zc H0 Z H σ ρ DD D' F S dm q => dm.bk Z H σ ρ _ .refl F S q⟩
theorem ws_continue : WS X K CA W (.Continue pos) tCont dCont := ⟨ps_continue, fun g Zc H0 Z H σ ρ DD D' F S dm q => dm.ct Z H σ ρ _ .refl F S q⟩
theorem ws_doc {x j pos'} : WS X K CA W (.Expr (.Constant (.str x) j pos) pos') tNext dNext := ⟨ps_doc, sim_next⟩
theorem ws_expr (h : WE X K CA W e ha ta) (hsw : swapsWith e none pos.line X.env = pure false := by rfl) : WS X K CA W (.Expr e pos) (tDrop ha) (dDrop ta) := ⟨ps_expr h.pe hsw, sim_drop h.sim⟩
theorem ws_ret (h : WE X K CA W e ha ta) : WS X K CA W (.Return (some e) pos) (tRet ha) (dRet ta) := ⟨ps_ret h.pe, sim_ret h.sim⟩
theorem ws_retN : WS X K CA W (.Return none pos) tRetN dRetN := ⟨ps_retN, fun g Zc H0 Z H σ ρ DD D' F S dm q => dm.rt .non H .non _ F.ag S.go.wd .non q⟩
theorem ws_if (h0 : WT X K CA W c hB tB) (h : WSs X K CA W x tu u) (h' : WSs X K CA W y tw w) : WS X K CA W (.If c x y pos) (tIfS hB tu tw) (dIfS tB u w) := ⟨ps_if h0.pe h.pe h'.pe, sim_ifS h0.sim h.sim h'.sim⟩
theorem sim_asg {sl : List Nat} (h : SimE K CA W ha ta) (hg : SimG K CA sl gH tg) : SimS K CA W (tAsg ha gH) (dAsg ta tg) := fun g Zc H0 Z H σ ρ DD D' F S dm q =>
  h g Zc Z H σ ρ _ _ _ S (fun v H1 x nH1 a1 w1 r1 q1 => hg _ Zc Z H1 σ ρ v x _ _ (S.ag a1 w1) r1 (fun σ' ρ' S' q' _ _ => dm.nx Z H1 σ' ρ' _ (S.go.stp a1) (F.ag' a1) S' q') q1) (dm.domX F S) q
theorem ws_asg {sl : List Nat} (h : WE X K CA W e ha ta) (hg : WG X K CA a sl gH tg) (hsw : swapsWithSole [a] e pos.line X.env = pure false := by rfl) (hw : swappedStores [a] e X.env = pure none := by rfl)
    (h1 : (assignEach [a] X.env).map (·.2) = [assign a X.env] := by rfl) : WS X K CA W (.Assign [a] e pos) (tAsg ha gH) (dAsg ta tg) := ⟨ps_asg h.pe hg.pe hsw hw h1, sim_asg h.sim hg.sim⟩
/-- x = e: hp is the rule ps_set .. -/
theorem ws_set {i : Nat} (h : WE X K CA W e ha ta) (hp : PE X e ha → PS X st (tAsg ha (gName i))) : WS X K CA W st (tAsg ha (gName i)) (dAsg ta (gdName i)) :=
  ⟨hp h.pe, sim_asg h.sim sim_gName⟩
theorem ws_par {i j : Nat} (h : WA X K CA W es hs ts) (hp : PA X es hs → PS X st (tPar i j hs)) : WS X K CA W st (tPar i j hs) (dPar i j ts) := by
  refine ⟨hp h.pe, fun g Zc H0 Z H σ ρ DD D' F S dm q => h.sim g Zc Z H σ ρ _ _ _ S (fun vs H1 ds nH1 a1 w1 r1 q1 => ?_) (dm.domX F S) q⟩
  obtain ⟨x, y, rfl, q1⟩ := q1
  cases r1 with
  | @cons v _ _ _ r1 r2 =>
    cases r2 with
    | @cons v' _ _ _ r2 r3 =>
      cases r3
      exact ⟨v, v', rfl, dm.nx Z H1 _ _ _ (S.go.stp a1) (F.ag' a1) (((S.ag a1 w1).setSh i r1).setSh j r2) q1⟩
end
/-! ### loops -/
section
variable (K : PySem.W.Frag) (CA : Nat → Addr) (W : WX)
/-- the iterator J gives the items ds, whatever the body does -/
structure Wk (g : Gd) (Z : List Addr) (H : Hp) (J : It) (ds : List D) : Prop where
  go : ∀ (i : Nat) (Zc Z' : List Addr) (H' : Hp) (d : D) (n : Nat), Stp Z H Z' H' → GO (g.at n) Zc Z' H' → ds[i]? = some d → J.go i H' ∧ ∀ x H2, J.yld i H' x H2 → Ag g.Z0 H' H2 ∧ (g.at n).Wd H2 ∧ Rp K CA g.dr Z' H2 x d
  stop : ∀ (Zc Z' : List Addr) (H' : Hp) (n : Nat), Stp Z H Z' H' → GO (g.at n) Zc Z' H' → J.stop ds.length H'
def SimI (wH : TI) (t : TDs) : Prop := ∀ (g : Gd) (Zc Z : List Addr) (H : Hp) (σ : L2.St) (ρ : DE) (Q : List D → NP) (E : EX) (R : It → Hp → Prop), SO K CA g Zc Z H σ ρ →
  (∀ J H1 ds n, Ag g.Z0 H H1 → (g.at n).Wd H1 → Wk K CA g Z H1 J ds → Q ds n → R J H1) → DomX K CA W g Z H E σ → t ρ Q E g.b → wH σ H R
end
section
variable (X : Cx) (K : PySem.W.Frag) (CA : Nat → Addr) (W : WX)
structure WI (tg iter : Expr) (wH : TI) (t : TDs) : Prop where
  pe : PI X tg iter wH
  sim : SimI K CA W wH t
end
section
variable {X : Cx} {K : PySem.W.Frag} {CA : Nat → Addr} {W : WX} {e a b l c tge iter : Expr} {es : List Expr} {gH : TG} {tg : TGD} {pos p : Pos} {st : Stmt} {sts rest body : List Stmt} {tb : TS} {u w : SD} {ha : TE} {ta : TD} {hs : TA} {wH : TI} {ts ti : TDs} {hB : TT} {tB : TB}
theorem ws_for {sl : List Nat} (hi : WI X K CA W a iter wH ti) (hg : WG X K CA a sl gH tg) (hb : WSs X K CA W body tb u)
    (hp : PI X a iter wH → PG X a gH → PSs X body tb → PS X st (tFor wH gH tb)) : WS X K CA W st (tFor wH gH tb) (dFor ti tg u) := by
  have s := hi.sim
  have s' := hg.sim
  have s'' := hb.sim
  refine ⟨hp hi.pe hg.pe hb.pe, fun g Zc H0 Z H σ ρ DD D' F S dm q => s g Zc Z H σ ρ _ _ _ S (fun J H1 ds n1 a1 w1 wk q1 => ?_) (dm.domX F S) q⟩
  have S1 := S.ag a1 w1
  have st1 := S.go.stp a1
  refine ⟨fun i m σ' H' => m + i = ds.length ∧ ∃ Z' ρ' n, Stp Z H1 Z' H' ∧ Fr (g.at n) Zc H0 Z' H' ∧ SO K CA (g.at n) Zc Z' H' σ' ρ' ∧ dForL tg u DD (ds.drop i) ρ' n, ⟨ds.length, rfl, Z, ρ, n1, .refl, F.ag' a1, S1, q1⟩, ?_⟩
  rintro i m σ' H' ⟨hm, Z', ρ', n', st', F', S', q'⟩
  cases hd : ds[i]? with
  | none =>
    have hlen : ds.length ≤ i := List.getElem?_eq_none_iff.mp hd
    obtain rfl : i = ds.length := by omega
    rw [List.drop_length] at q'
    exact .inl ⟨wk.stop Zc Z' H' n' st' S'.go, dm.nx Z' H' σ' ρ' n' (st1.trans st') F' S' q'⟩
  | some d =>
    obtain ⟨hlt, ed⟩ := List.getElem?_eq_some_iff.mp hd
    rw [List.drop_eq_getElem_cons hlt, ed] at q'
    obtain ⟨go, yl⟩ := wk.go i Zc Z' H' d n' st' S'.go hd
    refine .inr ⟨go, fun σ3 H3 => ∃ Z3 ρ3 n3, Stp Z H1 Z3 H3 ∧ Fr (g.at n3) Zc H0 Z3 H3 ∧ SO K CA (g.at n3) Zc Z3 H3 σ3 ρ3 ∧ dForL tg u DD (ds.drop (i + 1)) ρ3 n3, fun σ3 H3 n3 => ⟨m - 1, by omega, by omega, n3⟩, fun x H2 y2 => ?_⟩
    obtain ⟨a2, w2, r2⟩ := yl x H2 y2
    have st2 := st'.trans (S'.go.stp a2)
    refine s' _ Zc Z' H2 σ' ρ' x d _ _ (S'.ag a2 w2) r2 (fun σ2 ρ2 S2 q2 _ _ => ?_) q'
    refine s'' _ Zc H0 Z' H2 σ2 ρ2 { DD with nx := dForL tg u DD (ds.drop (i + 1)), ct := dForL tg u DD (ds.drop (i + 1)), bk := DD.nx } _ (F'.ag' a2) S2
      ⟨fun Z3 H3 σ3 ρ3 n3 k3 F3 S3 q3 => ⟨Z3, ρ3, n3, st2.trans k3, F3, S3, q3⟩, dm.rt, fun Z3 H3 σ3 ρ3 n3 k3 F3 S3 q3 => dm.nx Z3 H3 σ3 ρ3 n3 (st1.trans (st2.trans k3)) F3 S3 q3,
      fun Z3 H3 σ3 ρ3 n3 k3 F3 S3 q3 => ⟨Z3, ρ3, n3, st2.trans k3, F3, S3, q3⟩, fun cls dd Z3 H3 σ3 ρ3 c fs n3 k3 => dm.ex cls dd Z3 H3 σ3 ρ3 c fs n3 (st1.trans (st2.trans k3))⟩ q2
/-- a list or a tuple is walked -/
def iSeq (K : PySem.W.Frag) (tl : TE) : TI := fun σ H R => tl σ H fun x H1 => ∃ a, x = .ref a ∧ (((∃ xs, SqL K H1 a xs) ∧ R (Itl K a) H1) ∨ ((∃ xs, SqT K H1 a xs) ∧ R (Itt K a) H1))
theorem pi_seq {tl : TE} (hl : PE X l tl) (hK : X.K = K := by rfl) : PI X tge l (iSeq K tl) := by
  subst hK
  refine ⟨fun pins s σ H R I h => thn (hl.run pins s σ H _ I h) fun v s1 hv => ?_⟩
  obtain ⟨x, H1, I1, r1, a, rfl, hq⟩ := hv
  cases r1
  have new : ∀ o, Inv X pins σ H1 { s1 with heap := s1.heap.push o } := fun o => I1.kept (t' := s1.toks) fun b o e => Heap.get?_push_of_some _ e
  have fp : ∀ b ∈ [s1.heap.objs.size], FpOk X pins H1 b := fun b hb => by
    rw [List.mem_singleton] at hb
    rw [hb]
    exact I1.fpOk (Nat.le_refl _) (I1.hok.fresh (Nat.le_refl _))
  rcases hq with ⟨⟨xs, hx⟩, q⟩ | ⟨⟨xs, hx⟩, q⟩
  · obtain ⟨its, _, pl, _⟩ := I1.list hx
    exact wpAny_pyIter_list pl.isList ⟨_, _, _, _, H1, rfl, new _, turn_list a _, ⟨_, Heap.get?_push_size _ rfl, rfl, rfl⟩, fp, q⟩
  · obtain ⟨its, _, pl, _⟩ := I1.tuple hx
    exact wpAny_pyIter_tuple (show s1.heap.IsTuple a its.toArray from pl) ⟨_, _, _, _, H1, rfl, new _, turn_tuple a _, ⟨_, Heap.get?_push_size _ rfl, rfl, rfl⟩, fp, q⟩
theorem stp_sqT {Z Z' : List Addr} {H H' : Hp} {a : Addr} {xs : List V} (st : Stp Z H Z' H') (h : (a ∉ Z ∧ H a = some (.tup xs)) ∨ SqT K (fun _ => none) a xs) : SqT K H' a xs := by
  rcases h with ⟨n, e⟩ | h
  · exact .of (st a _ n e).2
  · exact sq_emp h
theorem wk_list {g : Gd} {Z : List Addr} {H : Hp} {a : Addr} {xs : List V} {ds : List D} (n : a ∉ Z) (e : H a = some (.lst xs)) (r : RpAll K CA g.dr Z H xs ds) : Wk K CA g Z H (Itl K a) ds :=
  ⟨fun i Zc Z' H' d m st o hd => by
    obtain ⟨v, hv, rv⟩ := r.getD hd
    have e' : SqL K H' a xs := .of (st a _ n e).2
    refine ⟨⟨xs, v, e', hv⟩, fun x H2 y => ?_⟩
    obtain ⟨rfl, hy⟩ := y
    have ex := (hy xs e').symm.trans hv
    cases ex
    exact ⟨Ag.refl, o.wd, (Rp.moveBoth st).1 _ _ rv⟩, fun Zc Z' H' m st o => ⟨xs, .of (st a _ n e).2, by rw [r.length]; exact Nat.le_refl _⟩⟩
theorem wk_tup {g : Gd} {Z : List Addr} {H : Hp} {a : Addr} {xs : List V} {ds : List D} (h : (a ∉ Z ∧ H a = some (.tup xs)) ∨ SqT K (fun _ => none) a xs) (r : RpAll K CA g.dr Z H xs ds) : Wk K CA g Z H (Itt K a) ds :=
  ⟨fun i Zc Z' H' d m st o hd => by
    obtain ⟨v, hv, rv⟩ := r.getD hd
    have e' : SqT K H' a xs := stp_sqT st h
    refine ⟨⟨xs, v, e', hv⟩, fun x H2 y => ?_⟩
    obtain ⟨rfl, hy⟩ := y
    have ex := (hy xs e').symm.trans hv
    cases ex
    exact ⟨Ag.refl, o.wd, (Rp.moveBoth st).1 _ _ rv⟩, fun Zc Z' H' m st o => ⟨xs, stp_sqT st h, by rw [r.length]; exact Nat.le_refl _⟩⟩
theorem wi_seq (h : WE X K CA W l ha ta) (hK : X.K = K := by rfl) : WI X K CA W tge l (iSeq K ha) (dSeqI ta) := by
  have s := h.sim
  refine ⟨pi_seq h.pe hK, fun g Zc Z H σ ρ Q E R S dv dx t => s g Zc Z H σ ρ _ E _ S (fun v H1 d nH1 a1 w1 r1 q1 => ?_) dx t⟩
  obtain ⟨ds, e, q1⟩ := q1
  cases r1 with
  | lst n e1 r =>
    cases e
    exact ⟨_, rfl, .inl ⟨⟨_, .of e1⟩, dv _ H1 ds _ a1 w1 (wk_list n e1 r) q1⟩⟩
  | tup n e1 r =>
    cases e
    exact ⟨_, rfl, .inr ⟨⟨_, .of e1⟩, dv _ H1 ds _ a1 w1 (wk_tup (.inl ⟨n, e1⟩) r) q1⟩⟩
  | ktup e1 r =>
    cases e
    exact ⟨_, rfl, .inr ⟨⟨_, sq_emp e1⟩, dv _ H1 ds _ a1 w1 (wk_tup (.inr e1) r) q1⟩⟩
  | _ => cases e
theorem wk_range {g : Gd} {Z : List Addr} {H : Hp} (lo : Int) (n : Nat) : Wk K CA g Z H (Itr lo n) (rgD lo n) :=
  ⟨fun i Zc Z' H' d m st o hd => by
    unfold rgD at hd
    rw [List.getElem?_map] at hd
    cases hr : (List.range n)[i]? with
    | none => rw [hr] at hd; cases hd
    | some j =>
      rw [hr] at hd
      obtain ⟨hlt, ej⟩ := List.getElem?_eq_some_iff.mp hr
      rw [List.getElem_range] at ej
      subst ej
      cases hd
      refine ⟨by show i < n; simpa using hlt, fun x H2 y => ?_⟩
      obtain ⟨rfl, rfl⟩ := y
      exact ⟨Ag.refl, o.wd, .int _⟩, fun Zc Z' H' m st o => by
    show n ≤ (rgD lo n).length
    unfold rgD
    rw [List.length_map, List.length_range]
    exact Nat.le_refl _⟩
theorem wi_rng1 (h : WA X K CA W es hs ts) (hp : PA X es hs → PI X tge l (iRng1 hs)) : WI X K CA W tge l (iRng1 hs) (dRng1 ts) := by
  have s := h.sim
  refine ⟨hp h.pe, fun g Zc Z H σ ρ Q E R S dv dx t => s g Zc Z H σ ρ _ E _ S (fun v H1 d nH1 a1 w1 r1 q1 => ?_) dx t⟩
  obtain ⟨n, rfl, h1, h2, q1⟩ := q1
  cases r1 with
  | cons r1 r2 =>
    cases r1
    cases r2
    exact ⟨n, rfl, h1, h2, dv _ H1 _ _ a1 w1 (wk_range 0 n.toNat) q1⟩
theorem wi_rng2 (h : WA X K CA W es hs ts) (hp : PA X es hs → PI X tge l (iRng2 hs)) : WI X K CA W tge l (iRng2 hs) (dRng2 ts) := by
  have s := h.sim
  refine ⟨hp h.pe, fun g Zc Z H σ ρ Q E R S dv dx t => s g Zc Z H σ ρ _ E _ S (fun v H1 d nH1 a1 w1 r1 q1 => ?_) dx t⟩
  obtain ⟨i, j, rfl, h1, q1⟩ := q1
  cases r1 with
  | cons r1 r2 =>
    cases r1
    cases r2 with
    | cons r2 r3 =>
      cases r2
      cases r3
      exact ⟨i, j, rfl, h1, dv _ H1 _ _ a1 w1 (wk_range i (j - i).toNat) q1⟩
theorem enD_get : ∀ (xs : List D) (k i : Nat) (d : D), (enD k xs)[i]? = some d → ∃ x, xs[i]? = some x ∧ d = .tup [.int ((k + i : Nat) : Int), x]
  | [], k, i, d, h => by simp [enD] at h
  | x :: xs, k, 0, d, h => by simp [enD] at h; exact ⟨x, rfl, by rw [← h]; rfl⟩
  | x :: xs, k, i + 1, d, h => by
    obtain ⟨y, h1, h2⟩ := enD_get xs (k + 1) i d (by simpa [enD] using h)
    exact ⟨y, by simpa using h1, by rw [h2]; congr 4; omega⟩
theorem enD_length : ∀ (xs : List D) (k : Nat), (enD k xs).length = xs.length
  | [], _ => rfl
  | _ :: xs, k => by simp [enD, enD_length xs (k + 1)]
theorem wk_enum {g : Gd} {Z : List Addr} {H : Hp} {a : Addr} {xs : List V} {ds : List D} (n : a ∉ Z) (e : H a = some (.lst xs)) (r : RpAll K CA g.dr Z H xs ds) : Wk K CA g Z H (Ite K a) (enD 0 ds) :=
  ⟨fun i Zc Z' H' d m st o hd => by
    obtain ⟨y, hy, rfl⟩ := enD_get ds 0 i d hd
    obtain ⟨v, hv, rv⟩ := r.getD hy
    have e' : SqL K H' a xs := .of (st a _ n e).2
    refine ⟨⟨xs, v, e', hv⟩, fun x H2 yl => ?_⟩
    obtain ⟨T, z, rfl, nT, rfl, hz⟩ := yl
    have ex := (hz xs e').symm.trans hv
    cases ex
    have ri : ((0 + i : Nat) : Int) = ((i : Nat) : Int) := by omega
    rw [ri]
    exact ⟨Ag.new nT, o.wdNew nT, .tup (o.fresh nT) upd_same (.cons (.int _) (.cons (o.rp (Ag.new nT) ((Rp.moveBoth st).1 _ _ rv)) .nil))⟩, fun Zc Z' H' m st o => ⟨xs, .of (st a _ n e).2, by rw [enD_length, r.length]; exact Nat.le_refl _⟩⟩
theorem wi_enum (h : WA X K CA W es hs ts) (hp : PA X es hs → PI X tge l (iEnum K hs)) : WI X K CA W tge l (iEnum K hs) (dEnum ts) := by
  have s := h.sim
  refine ⟨hp h.pe, fun g Zc Z H σ ρ Q E R S dv dx t => s g Zc Z H σ ρ _ E _ S (fun v H1 d nH1 a1 w1 r1 q1 => ?_) dx t⟩
  obtain ⟨ds, rfl, q1⟩ := q1
  cases r1 with
  | cons r1 r2 =>
    obtain ⟨a, xs, rfl, e1, n, r⟩ := rp_lst r1
    cases r2
    exact ⟨a, xs, rfl, .of e1, dv _ H1 _ _ a1 w1 (wk_enum n e1 r) q1⟩
theorem ws_while (hc : WT X K CA W c hB tB) (hb : WSs X K CA W body tb u) (hp : PT X c hB → PSs X body tb → PS X st (tWhile hB tb)) : WS X K CA W st (tWhile hB tb) (dWhile tB u) := by
  have s := hc.sim
  have s' := hb.sim
  refine ⟨hp hc.pe hb.pe, fun g Zc H0 Z H σ ρ DD D' F S dm q => ?_⟩
  obtain ⟨n, q⟩ := q
  refine ⟨fun m σ' H' => ∃ Z' ρ' n, Stp Z H Z' H' ∧ Fr (g.at n) Zc H0 Z' H' ∧ SO K CA (g.at n) Zc Z' H' σ' ρ' ∧ dWh tB u DD m ρ' n, ⟨n, Z, ρ, g.b, .refl, F, S, q⟩, ?_⟩
  rintro m σ' H' ⟨Z', ρ', n', st', F', S', q'⟩
  cases m with
  | zero => exact q'.elim
  | succ m =>
    refine s _ Zc Z' H' σ' ρ' _ _ _ S' (fun b H1 nH1 a1 w1 q1 => ?_) ((dm.from st').domX F' S') q'
    have st1 := st'.trans (S'.go.stp a1)
    cases b with
    | false => exact dm.nx Z' H1 σ' ρ' _ st1 (F'.ag' a1) (S'.ag a1 w1) q1
    | true =>
      refine ⟨fun σ3 H3 => ∃ Z3 ρ3 n3, Stp Z H Z3 H3 ∧ Fr (g.at n3) Zc H0 Z3 H3 ∧ SO K CA (g.at n3) Zc Z3 H3 σ3 ρ3 ∧ dWh tB u DD m ρ3 n3, fun σ3 H3 h3 => ⟨m, Nat.lt_succ_self _, h3⟩, ?_⟩
      exact s' _ Zc H0 Z' H1 σ' ρ' { DD with nx := dWh tB u DD m, ct := dWh tB u DD m, bk := DD.nx } _ (F'.ag' a1) (S'.ag a1 w1)
        ⟨fun Z3 H3 σ3 ρ3 n3 k3 F3 S3 q3 => ⟨Z3, ρ3, n3, st1.trans k3, F3, S3, q3⟩, dm.rt, fun Z3 H3 σ3 ρ3 n3 k3 F3 S3 q3 => dm.nx Z3 H3 σ3 ρ3 n3 (st1.trans k3) F3 S3 q3,
        fun Z3 H3 σ3 ρ3 n3 k3 F3 S3 q3 => ⟨Z3, ρ3, n3, st1.trans k3, F3, S3, q3⟩, fun cls dd Z3 H3 σ3 ρ3 c fs n3 k3 => dm.ex cls dd Z3 H3 σ3 ρ3 c fs n3 (st1.trans k3)⟩ q1
end
end WM
namespace WM
open PySem PySem.Spec PyProof.Rows L2

/-! ### new objects that are one's own -/
section
variable (K : PySem.W.Frag) (CA : Nat → Addr) (W : WX)
def DomF (g : Gd) (Z : List Addr) (H : Hp) (Q : D → NP) (Q' : VK) : Prop := ∀ p H' d n, H p = none → Ag g.Z0 H H' → (g.at n).Wd H' → Own K CA g.dr g.me (p :: Z) H' p d → Q d n → Q' (.ref p) H'
def SimF (tH : TE) (t : TD) : Prop := ∀ (g : Gd) (Zc Z : List Addr) (H : Hp) (σ : L2.St) (ρ : DE) (Q : D → NP) (E : EX) (Q' : VK), SO K CA g Zc Z H σ ρ → DomF K CA g Z H Q Q' → DomX K CA W g Z H E σ → t ρ Q E g.b → tH σ H Q'
end
section
variable (X : Cx) (K : PySem.W.Frag) (CA : Nat → Addr) (W : WX)
structure WF (e : Expr) (tH : TE) (t : TD) : Prop where
  pe : PE X e tH
  sim : SimF K CA W tH t
end
section
variable {K : PySem.W.Frag} {CA : Nat → Addr} {W : WX} {g : Gd} {Zc Z : List Addr} {H H' H1 H0 : Hp} {σ : L2.St} {ρ : DE} {p : Addr} {d : D}
theorem GO.back {m : Nat} (o : GO g Zc Z H) (k : Ag g.Z0 H H1) (w : (g.at m).Wd H1) (n : H1 p = none) : H p = none := by
  cases e : H p with
  | none => rfl
  | some u =>
    by_cases h : p ∈ g.Z0
    · obtain ⟨x, e'⟩ := (g.at m).zin w p h
      rw [n] at e'; cases e'
    · have := k p u h e
      rw [n] at this; cases this
theorem Fr.back (F : Fr g Zc H0 Z H) (o : GO g Zc Z H) (n : H p = none) : H0 p = none := by
  cases e : H0 p with
  | none => rfl
  | some u =>
    by_cases h : p ∈ g.Z0
    · obtain ⟨x, e'⟩ := o.zin p (o.z0 h)
      rw [n] at e'; cases e'
    · have := F.ag p u h e
      rw [n] at this; cases this
theorem SO.growTo {m : Nat} (S : SO K CA g Zc Z H σ ρ) (n : H p = none) (k : Ag g.Z0 H H') (w : (g.at m).Wd H') (hp : ∃ u, H' p = some u) : SO K CA (g.at m) Zc (p :: Z) H' σ ρ := by
  have kz : ∀ b x, b ∉ p :: Z → H b = some x → H' b = some x := fun b x m e => k b x (fun z => m (List.mem_cons_of_mem _ (S.go.z0 z))) e
  refine ⟨⟨w, S.go.c0, fun b hb => List.mem_cons_of_mem _ (S.go.cz b hb), fun b hb => ?_⟩, S.len, fun i s e => ?_, S.inj⟩
  · rcases List.mem_cons.mp hb with rfl | hb
    · exact hp
    · exact (S.go.ag k w).zin b hb
  · obtain ⟨v, e1, h⟩ := S.sl i s e
    refine ⟨v, e1, ?_⟩
    cases s with
    | sh d => exact (Rp.grow h n).ag kz
    | ow d =>
      obtain ⟨a, ea, h1, h2, h3⟩ := h
      have na : a ∉ g.Z0 := fun z => h2 (S.go.c0 a z)
      refine ⟨a, ea, List.mem_cons_of_mem _ h1, h2, ?_⟩
      cases h3 with
      | lst q r => exact .lst (k a _ na q) ((r.grow n).ag kz)
      | dct q en r => exact .dct (k a _ na q) en ((r.grow n).ag kz)
      | obj q en r => exact .obj (k a _ na q) en ((r.grow n).ag kz)
      | me eq q en r => exact .me eq (k a _ na q) en ((r.grow n).ag kz)
theorem Fr.growTo {m : Nat} (F : Fr g Zc H0 Z H) (o : GO g Zc Z H) (n : H p = none) (k : Ag g.Z0 H H') : Fr (g.at m) Zc H0 (p :: Z) H' := ⟨F.ag.trans k, fun b hb => by
  rcases List.mem_cons.mp hb with rfl | hb
  · exact .inr (F.back o n)
  · exact F.nz b hb⟩
theorem GO.stpTo (o : GO g Zc Z H) (n : H p = none) (k : Ag g.Z0 H H') : Stp Z H (p :: Z) H' := fun b u m e => ⟨fun z => by
  rcases List.mem_cons.mp z with rfl | z
  · rw [n] at e; cases e
  · exact m z, o.agZ k b u m e⟩
theorem own_rp {a : Addr} (h : Own K CA g.dr g.me (a :: Z) H a d) (n : a ∉ Z) : Rp K CA g.dr Z H (.ref a) d := by
  have sub : ∀ b, b ∈ Z → b ∈ a :: Z := fun b hb => List.mem_cons_of_mem _ hb
  cases h with
  | lst q r => exact .lst n q (r.zone sub)
  | dct q en r => exact .dct n q en (r.zone sub)
  | obj q en r => exact .obj n q en (r.zone sub)
  | me eq q en r => exact .me (.obj n q en (r.zone sub))
theorem own_there {Z : List Addr} {dr : Option Addr} {me a : Addr} (h : Own K CA dr me Z H a d) : ∃ u, H a = some u := by
  cases h with
  | lst q r => exact ⟨_, q⟩
  | dct q en r => exact ⟨_, q⟩
  | obj q en r => exact ⟨_, q⟩
  | me eq q en r => exact ⟨_, q⟩
theorem DomN.toF {Q : D → NP} {Q' : VK} (dv : DomN K CA g Z H Q Q') (o : GO g Zc Z H) : DomF K CA g Z H Q Q' := fun p H' d m n k w ow q => dv _ H' d m k w (own_rp ow (o.fresh n)) q
theorem SimF.e {tH : TE} {t : TD} (h : SimF K CA W tH t) : SimE K CA W tH t := fun g Zc Z H σ ρ Q E Q' S dv dx q => h g Zc Z H σ ρ Q E Q' S (dv.toF S.go) dx q
/-- a new object laid now -/
theorem DomF.made {Q : D → NP} {Q' : VK} {u : HO} {m : Nat} (df : DomF K CA g Z H Q Q') (o : GO g Zc Z H) (k : Ag g.Z0 H H1) (w : (g.at m).Wd H1) (n : H1 p = none) (ow : Own K CA g.dr g.me (p :: Z) (upd H1 p u) p d) (q : Q d m) : Q' (.ref p) (upd H1 p u) :=
  df p _ d m (o.back k w n) (k.trans (Ag.new n)) ((o.ag k w).wdNew n) ow q
theorem upd_kz {Z : List Addr} {u : HO} : ∀ b x, b ∉ p :: Z → H b = some x → upd H p u b = some x := fun b x m e => by
  have hb : b ≠ p := fun z => m (by rw [z]; exact List.mem_cons_self ..)
  rw [upd_ne hb]; exact e
theorem rps_laid {dr : Option Addr} {Z : List Addr} {vs : List V} {ds : List D} {u : HO} (r : RpAll K CA dr Z H vs ds) (n : H p = none) : RpAll K CA dr (p :: Z) (upd H p u) vs ds := (r.grow n).ag upd_kz
end
def dAsgO (t : TD) (i : Nat) : SD := fun DD ρ => t ρ (fun d => DD.nx (ρ.set i (some (.ow d)))) (DD.ex ρ)
def dApp (i : Nat) (t : TD) : SD := fun DD ρ m => ∃ ds, ρ[i]? = some (some (.ow (.lst ds))) ∧ t ρ (fun d n => ds.length < sizeLine ∧ DD.nx (ρ.set i (some (.ow (.lst (ds ++ [d]))))) n) (DD.ex ρ) m
def dDSet (i : Nat) (tk tv : TD) : SD := fun DD ρ m => ∃ kvs, ρ[i]? = some (some (.ow (.dct kvs))) ∧ tv ρ (fun v => tk ρ (fun y n => ∃ k, keyD y = some k ∧ kvs.length < sizeLine ∧ DD.nx (ρ.set i (some (.ow (.dct (dPut kvs k v))))) n) (DD.ex ρ)) (DD.ex ρ) m
def dPairs : List (TD × TD) → DE → (List (D × D) → NP) → EX → NP
  | [], _, Q, _ => Q []
  | (tk, tv) :: r, ρ, Q, E => tk ρ (fun x => tv ρ (fun y => dPairs r ρ (fun ps => Q ((x, y) :: ps)) E) E) E
def keysOf : List (D × D) → Option (List (Key × D))
  | [] => some []
  | (x, y) :: r => match keyD x, keysOf r with
    | some k, some ks => some ((k, y) :: ks)
    | _, _ => none
def mergeD (kvs more : List (Key × D)) : List (Key × D) := more.foldl (fun acc kv => dPut acc kv.1 kv.2) kvs
def dDisp (ts : List (TD × TD)) : TD := fun ρ Q E => dPairs ts ρ (fun ps n => ∃ kvs, keysOf ps = some kvs ∧ kvs.length ≤ 15 ∧ Q (.dct (mergeD [] kvs)) n) E
def dDNew : TD := fun _ Q _ => Q (.dct [])
/-- the comprehension's items -/
def wipeD (ρ : DE) : List Nat → DE
  | [] => ρ
  | v :: vs => (wipeD ρ vs).set v none
def noX : EX := fun _ _ _ => False
def dLcL (tg : TGD) (tt : TB) (te : TD) (ρ0 : DE) (k : List D → NP) : List D → List D → NP
  | acc, [] => k acc
  | acc, d :: r => tg d ρ0 (fun ρ2 => tt ρ2 (fun b n => if b = true then te ρ2 (fun y m => acc.length < sizeLine ∧ dLcL tg tt te ρ0 k (acc ++ [y]) r m) noX n else dLcL tg tt te ρ0 k acc r n) noX)
def dLc (ti : TDs) (tg : TGD) (tt : TB) (te : TD) (vs : List Nat) : TD := fun ρ Q E => ti ρ (fun ds => dLcL tg tt te (wipeD ρ vs) (fun out => Q (.lst out)) [] ds) E
def dYes : TB := fun _ Q _ => Q true

section
variable {X : Cx} {K : PySem.W.Frag} {CA : Nat → Addr} {W : WX} {e a b c tge iter : Expr} {es : List Expr} {pos : Pos} {st : Stmt} {ha hb hk hv : TE} {ta tb tk tv : TD} {hs : TA} {ts : TDs} {i : Nat}
theorem WF.we (h : WF X K CA W e ha ta) : WE X K CA W e ha ta := ⟨h.pe, h.sim.e⟩
theorem wf_lst (h : WA X K CA W es hs ts) : WF X K CA W (.List es pos) (L2.tLst hs) (dLst ts) :=
  ⟨pe_lst h.pe, fun g Zc Z H σ ρ Q E Q' S df dx t => h.sim g Zc Z H σ ρ _ E _ S (fun vs H1 ds nH1 a1 w1 r1 q1 => ⟨by rw [r1.length]; exact q1.1, fun p n =>
    df.made S.go a1 w1 n (.lst upd_same (rps_laid r1 n)) q1.2⟩) dx t⟩
theorem wf_dnew : WF X K CA W (.Dict [] [] pos) tDNewK dDNew :=
  ⟨pe_dnewK, fun g Zc Z H σ ρ Q E Q' S df dx t p n => df.made S.go Ag.refl S.go.wd n (.dct upd_same rfl .nil) t⟩
/-- x = a new object -/
theorem ws_setO (h : WF X K CA W e ha ta) (hp : PE X e ha → PS X st (tAsg ha (gName i))) : WS X K CA W st (tAsg ha (gName i)) (dAsgO ta i) := by
  refine ⟨hp h.pe, fun g Zc H0 Z H σ ρ DD D' F S dm q => h.sim g Zc Z H σ ρ _ _ _ S (fun p H' d m n k w ow q1 => ?_) (dm.domX F S) q⟩
  have np : p ∉ Z := S.go.fresh n
  refine dm.nx (p :: Z) H' _ _ _ (S.go.stpTo n k) (F.growTo S.go n k) ((S.growTo n k w (own_there ow)).setOw i (List.mem_cons_self ..) (fun z => np (S.go.cz p z)) ow fun j x nj e1 e2 => ?_) q1
  obtain ⟨v, e3, a, rfl, hz, _, _⟩ := S.sl j _ e1
  rw [e3] at e2
  cases e2
  exact np hz
theorem own_at {g : Gd} {Zc Z : List Addr} {H : Hp} {σ : L2.St} {ρ : DE} {d : D} (S : SO K CA g Zc Z H σ ρ) (e : ρ[i]? = some (some (.ow d))) : ∃ a, σ[i]? = some (some (.ref a)) ∧ a ∈ Z ∧ a ∉ Zc ∧ Own K CA g.dr g.me Z H a d := by
  obtain ⟨v, e1, a, rfl, h1, h2, h3⟩ := S.sl i _ e
  exact ⟨a, e1, h1, h2, h3⟩
theorem ws_app (h : WE X K CA W e ha ta) (hp : PE X e ha → PS X st (tDrop (tBM K "list" rAppend (L2.tVar i) (L2.tCons ha L2.tNil)))) : WS X K CA W st (tDrop (tBM K "list" rAppend (L2.tVar i) (L2.tCons ha L2.tNil))) (dApp i ta) := by
  refine ⟨hp h.pe, fun g Zc H0 Z H σ ρ DD D' F S dm q => ?_⟩
  obtain ⟨ds, e1, q⟩ := q
  obtain ⟨l, e2, hz, hc, ow⟩ := own_at S e1
  cases ow with
  | @lst xs _ el r =>
    refine ⟨.ref l, e2, .inl ⟨rfl, xs, .of el⟩, h.sim g Zc Z H σ ρ _ _ _ S (fun v H1 d nH1 a1 w1 r1 q1 => ?_) (dm.domX F S) q⟩
    have S1 := S.ag a1 w1
    have el1 : H1 l = some (.lst xs) := a1 l _ (fun z => hc (S.go.c0 l z)) el
    have r' := S.go.rps a1 r
    refine ⟨l, xs, v, rfl, rfl, el1, by rw [r.length]; exact q1.1, ?_⟩
    have kz : ∀ b x, b ∉ Z → H1 b = some x → upd H1 l (.lst (xs ++ [v])) b = some x := fun b x m e => by
      have hb : b ≠ l := fun z => m (by rw [z]; exact hz)
      rw [upd_ne hb]; exact e
    refine dm.nx Z _ σ _ nH1 ((S.go.stp a1).trans fun b u m e => ⟨m, kz b u m e⟩) ⟨(F.ag.trans a1).mut ?_, F.nz⟩ (S1.write e1 e2 hz hc (.lst upd_same ((r'.append (.cons r1 .nil)).ag kz))) q1.2
    rcases F.nz l hz with z | z
    · exact absurd z hc
    · exact z
theorem ws_dset (h : WE X K CA W a hk tk) (h' : WE X K CA W b hv tv) (hp : PE X a hk → PE X b hv → PS X st (sDPut (L2.tVar i) hk hv)) : WS X K CA W st (sDPut (L2.tVar i) hk hv) (dDSet i tk tv) := by
  refine ⟨hp h.pe h'.pe, fun g Zc H0 Z H σ ρ DD D' F S dm q => ?_⟩
  obtain ⟨kvs, e1, q⟩ := q
  obtain ⟨l, e2, hz, hc, ow⟩ := own_at S e1
  cases ow with
  | @dct hkv _ el en r =>
    refine h'.sim g Zc Z H σ ρ _ _ _ S (fun v H1 d nH1 a1 w1 r1 q1 => ?_) (dm.domX F S) q
    have S1 := S.ag a1 w1
    refine ⟨.ref l, e2, h.sim _ Zc Z H1 σ ρ _ _ _ S1 (fun y H2 d2 nH2 a2 w2 r2 q2 => ?_) ((dm.domX F S).ag a1) q1⟩
    obtain ⟨k, ek, hl, q2⟩ := q2
    have S2 := S1.ag a2 w2
    have a12 := a1.trans a2
    have el2 : H2 l = some (.dK hkv) := a12 l _ (fun z => hc (S.go.c0 l z)) el
    have r' := S.go.rps a12 r
    have r1' := S1.go.rp a2 r1
    have ey := rp_key r2 ek
    subst ey
    obtain ⟨en', rr⟩ := rp_dput (k := k) en r' r1'
    have hlen : hkv.length = kvs.length := by
      have := congrArg List.length en
      simpa using this
    refine ⟨l, _, rfl, DPut.k el2 (by rw [hlen]; exact hl), ?_⟩
    have kz : ∀ b x, b ∉ Z → H2 b = some x → upd H2 l (.dK (putK hkv k v)) b = some x := fun b x m e => by
      have hb : b ≠ l := fun z => m (by rw [z]; exact hz)
      rw [upd_ne hb]; exact e
    refine dm.nx Z _ σ _ nH2 ((S.go.stp a12).trans fun b u m e => ⟨m, kz b u m e⟩) ⟨(F.ag.trans a12).mut ?_, F.nz⟩ (S2.write e1 e2 hz hc (.dct upd_same en' (rr.ag kz))) q2
    rcases F.nz l hz with z | z
    · exact absurd z hc
    · exact z
/-! ### displays of dicts -/
def SimP (K : PySem.W.Frag) (CA : Nat → Addr) (W : WX) (trs : List (TE × TE)) (ts : List (TD × TD)) : Prop := ∀ (g : Gd) (Zc Z : List Addr) (H : Hp) (σ : L2.St) (ρ : DE) (Q : List (D × D) → NP) (E : EX) (Q' : List (V × V) → Hp → Prop), SO K CA g Zc Z H σ ρ →
  (∀ ps H' qs n, Ag g.Z0 H H' → (g.at n).Wd H' → RpAll K CA g.dr Z H' (ps.map (·.1)) (qs.map (·.1)) → RpAll K CA g.dr Z H' (ps.map (·.2)) (qs.map (·.2)) → Q qs n → Q' ps H') → DomX K CA W g Z H E σ → dPairs ts ρ Q E g.b → tPairs trs σ H Q'
structure WP (X : Cx) (K : PySem.W.Frag) (CA : Nat → Addr) (W : WX) (pos : Pos) (keys : List (Option Expr)) (values : List Expr) (trs : List (TE × TE)) (ts : List (TD × TD)) : Prop where
  pe : PPs X pos keys values trs
  sim : SimP K CA W trs ts
theorem wp_nil : WP X K CA W pos [] [] [] [] := ⟨pps_nil, fun g Zc Z H σ ρ Q E Q' S dv dx t => dv [] H [] _ Ag.refl S.go.wd .nil .nil t⟩
theorem wp_cons {ks : List (Option Expr)} {vs : List Expr} {trs : List (TE × TE)} {ts : List (TD × TD)} (h : WE X K CA W a hk tk) (h' : WE X K CA W b hv tv) (hr : WP X K CA W pos ks vs trs ts) : WP X K CA W pos (some a :: ks) (b :: vs) ((hk, hv) :: trs) ((tk, tv) :: ts) :=
  ⟨pps_cons h.pe h'.pe hr.pe, fun g Zc Z H σ ρ Q E Q' S dv dx t => h.sim g Zc Z H σ ρ _ E _ S (fun x H1 d1 nH1 a1 w1 r1 q1 => h'.sim _ Zc Z H1 σ ρ _ E _ (S.ag a1 w1) (fun y H2 d2 nH2 a2 w2 r2 q2 =>
    hr.sim _ Zc Z H2 σ ρ _ E _ ((S.ag a1 w1).ag a2 w2) (fun ps H3 qs nH3 a3 w3 r3 r4 q3 => dv ((x, y) :: ps) H3 ((d1, d2) :: qs) _ ((a1.trans a2).trans a3) w3
      (.cons ((S.ag a1 w1).go.rp (a2.trans a3) r1) r3) (.cons (((S.ag a1 w1).ag a2 w2).go.rp a3 r2) r4) q3) ((dx.ag a1).ag a2) q2) (dx.ag a1) q1) dx t⟩
theorem keys_rel {K : PySem.W.Frag} {dr : Option Addr} {Z : List Addr} {H : Hp} : ∀ (ps : List (V × V)) (qs : List (D × D)) (ks : List (Key × D)), RpAll K CA dr Z H (ps.map (·.1)) (qs.map (·.1)) → RpAll K CA dr Z H (ps.map (·.2)) (qs.map (·.2)) → keysOf qs = some ks →
    ∃ kvs : List (Key × V), ps = kvs.map (fun kv => (kV kv.1, kv.2)) ∧ kvs.map (·.1) = ks.map (·.1) ∧ RpAll K CA dr Z H (kvs.map (·.2)) (ks.map (·.2))
  | [], [], ks, _, _, h => by cases h; exact ⟨[], rfl, rfl, .nil⟩
  | [], _ :: _, _, h, _, _ => by cases h
  | _ :: _, [], _, h, _, _ => by cases h
  | (x, y) :: ps, (d1, d2) :: qs, ks, h1, h2, h => by
    cases h1 with
    | cons a1 b1 =>
      cases h2 with
      | cons a2 b2 =>
        simp only [keysOf] at h
        cases hk : keyD d1 with
        | none => rw [hk] at h; cases h
        | some k =>
          cases hr : keysOf qs with
          | none => rw [hk, hr] at h; cases h
          | some r =>
            rw [hk, hr] at h
            cases h
            obtain ⟨kvs, e1, e2, e3⟩ := keys_rel ps qs r b1 b2 hr
            exact ⟨(k, y) :: kvs, by rw [List.map_cons, ← e1]; have ek : x = kV k := rp_key a1 hk; rw [ek], by rw [List.map_cons, List.map_cons, e2], .cons a2 e3⟩
theorem merge_rel {K : PySem.W.Frag} {dr : Option Addr} {Z : List Addr} {H : Hp} : ∀ (more : List (Key × V)) (dmore : List (Key × D)) (kvs : List (Key × V)) (ds : List (Key × D)), more.map (·.1) = dmore.map (·.1) → RpAll K CA dr Z H (more.map (·.2)) (dmore.map (·.2)) → kvs.map (·.1) = ds.map (·.1) → RpAll K CA dr Z H (kvs.map (·.2)) (ds.map (·.2)) →
    (mergeK kvs more).map (·.1) = (mergeD ds dmore).map (·.1) ∧ RpAll K CA dr Z H ((mergeK kvs more).map (·.2)) ((mergeD ds dmore).map (·.2))
  | [], [], kvs, ds, _, _, e, r => ⟨e, r⟩
  | [], _ :: _, _, _, h, _, _, _ => by simp at h
  | _ :: _, [], _, _, h, _, _, _ => by simp at h
  | (k, y) :: more, (k', d) :: dmore, kvs, ds, h, h', e, r => by
    simp only [List.map_cons, List.cons.injEq] at h
    obtain ⟨rfl, h⟩ := h
    cases h' with
    | cons a b =>
      obtain ⟨e2, r2⟩ := rp_dput (k := k) e r a
      exact merge_rel more dmore _ _ h b e2 r2
theorem wf_disp {ks : List (Option Expr)} {vs : List Expr} {trs : List (TE × TE)} {ts : List (TD × TD)} (h : WP X K CA W pos ks vs trs ts) (hall : ks.all (·.isSome) = true) (hl : ks.length = vs.length) (h0 : ks ≠ []) (h15 : ks.length ≤ 15) : WF X K CA W (.Dict ks vs pos) (tDisp trs) (dDisp ts) := by
  refine ⟨pe_disp h.pe hall hl h0 h15, fun g Zc Z H σ ρ Q E Q' S df dx t p n => ?_⟩
  have S1 := S.growNew (u := .dK []) n
  have np : p ∉ Z := S.go.fresh n
  have n0 : p ∉ g.Z0 := fun z => np (S.go.z0 z)
  have a0 : Ag g.Z0 H (upd H p (.dK [])) := Ag.new n
  refine h.sim _ Zc (p :: Z) _ σ ρ _ E _ S1 (fun ps H2 qs nH2 a2 w2 r1 r2 q => ?_) (fun cls dd H' c fs m a w xr ex => dx cls dd H' c fs m (a0.trans a) w ?_ ex) t
  · obtain ⟨ks, e, hl, q⟩ := q
    obtain ⟨kvs, e1, e2, e3⟩ := keys_rel ps qs ks r1 r2 e
    have hp2 := a2 p _ n0 upd_same
    have hlen : kvs.length = ks.length := by
      have := congrArg List.length e2
      simpa using this
    refine ⟨hp2, kvs, e1, by rw [hlen]; exact hl, ?_⟩
    obtain ⟨m1, m2⟩ := merge_rel kvs ks [] [] e2 e3 rfl .nil
    refine df p _ _ nH2 n (fun b u m e => ?_) ((g.at nH2).wd (fun b hb => upd_ne (fun z => n0 (z ▸ hb))) w2) (.dct upd_same m1 (m2.ag upd_kz)) q
    have hb : b ≠ p := ne_of_none e n
    rw [upd_ne hb]
    exact a2 b u m (by rw [upd_ne hb]; exact e)
  · obtain ⟨x1, x2⟩ := xr
    refine ⟨x1, ?_⟩
    rcases x2 with x2 | ⟨x, hf, y1, y2, y3, y4, y5⟩
    · exact .inl x2
    · exact .inr ⟨x, hf, y1, fun z => y2 (List.mem_cons_of_mem _ z), y3, y4, y5.zone fun b hb => List.mem_cons_of_mem _ hb⟩
/-! ### comprehensions -/
theorem wipe_at {σ : L2.St} {vs : List Nat} {j : Nat} (h : j ∉ vs) : (wipe σ vs)[j]? = σ[j]? := by
  induction vs with
  | nil => rfl
  | cons v vs ih =>
    simp only [List.mem_cons, not_or] at h
    unfold wipe
    rw [List.getElem?_set_ne (Ne.symm h.1)]
    exact ih h.2
theorem wipeD_len (ρ : DE) (vs : List Nat) : (wipeD ρ vs).length = ρ.length := by
  induction vs with
  | nil => rfl
  | cons v vs ih => unfold wipeD; rw [List.length_set, ih]
theorem wipeD_some {ρ : DE} {vs : List Nat} {j : Nat} {s : Sl} (h : (wipeD ρ vs)[j]? = some (some s)) : j ∉ vs ∧ ρ[j]? = some (some s) := by
  induction vs with
  | nil => exact ⟨by simp, h⟩
  | cons v vs ih =>
    unfold wipeD at h
    rcases set_some h with ⟨_, q⟩ | ⟨n, q⟩
    · cases q
    · obtain ⟨h1, h2⟩ := ih q
      exact ⟨by simp [n, h1], h2⟩
theorem SO.wiped {g : Gd} {Zc Z : List Addr} {H : Hp} {σ : L2.St} {ρ : DE} (S : SO K CA g Zc Z H σ ρ) (vs : List Nat) : SO K CA g Zc Z H (wipe σ vs) (wipeD ρ vs) := by
  refine ⟨S.go, by rw [wipe_length, wipeD_len]; exact S.len, fun j s e => ?_, fun i j x y v e1 e2 e3 e4 => ?_⟩
  · obtain ⟨h1, h2⟩ := wipeD_some e
    obtain ⟨v, e1, h⟩ := S.sl j s h2
    exact ⟨v, by rw [wipe_at h1]; exact e1, h⟩
  · obtain ⟨h1, h2⟩ := wipeD_some e1
    obtain ⟨h3, h4⟩ := wipeD_some e2
    rw [wipe_at h1] at e3
    rw [wipe_at h3] at e4
    exact S.inj i j x y v h2 h4 e3 e4
abbrev W0 : WX := fun _ _ _ _ => False
theorem dom0 {g : Gd} {Z : List Addr} {H : Hp} {σ : L2.St} : DomX K CA W g Z H noX σ := fun _ _ _ _ _ _ _ _ _ z => z.elim
theorem wipe_none {σ : L2.St} {vs : List Nat} {j : Nat} (h : j ∈ vs) : (wipe σ vs)[j]? = none ∨ (wipe σ vs)[j]? = some none := by
  induction vs with
  | nil => cases h
  | cons w ws ih =>
    unfold wipe
    by_cases q : w = j
    · subst q
      by_cases l : w < (wipe σ ws).length
      · exact .inr (List.getElem?_set_self l)
      · exact .inl (by rw [List.getElem?_eq_none_iff, List.length_set]; omega)
    · rw [List.getElem?_set_ne q]
      rcases List.mem_cons.mp h with z | z
      · exact absurd z.symm q
      · exact ih z
theorem wipe_eq {σ σ' : L2.St} {vs : List Nat} (hl : σ'.length = σ.length) (h : ∀ j, j ∉ vs → σ'[j]? = σ[j]?) : wipe σ' vs = wipe σ vs := by
  apply List.ext_getElem?
  intro j
  by_cases hj : j ∈ vs
  · have l1 := wipe_length σ' vs
    have l2 := wipe_length σ vs
    by_cases lt : j < σ.length
    · have k1 := wipe_none (σ := σ') hj
      have k2 := wipe_none (σ := σ) hj
      have n1 : (wipe σ' vs)[j]? ≠ none := fun z => by have := List.getElem?_eq_none_iff.mp z; omega
      have n2 : (wipe σ vs)[j]? ≠ none := fun z => by have := List.getElem?_eq_none_iff.mp z; omega
      rw [k1.resolve_left n1, k2.resolve_left n2]
    · rw [List.getElem?_eq_none_iff.mpr (by omega), List.getElem?_eq_none_iff.mpr (by omega)]
  · rw [wipe_at hj, wipe_at hj]
    exact h j hj
theorem wf_lc {gH : TG} {tg : TGD} {hT : TT} {tt : TB} {te : TD} {he : TE} {wH : TI} {ti : TDs} {vs : List Nat} (hi : WI X K CA W tge iter wH ti) {sl : List Nat} (hg : SimG K CA sl gH tg) (ht : SimT K CA W0 hT tt) (hel : SimE K CA W0 he te) (ho : ∀ j, j ∈ sl → j ∈ vs)
    (hp : PI X tge iter wH → PE X e (tLc wH gH hT he vs)) : WF X K CA W e (tLc wH gH hT he vs) (dLc ti tg tt te vs) := by
  refine ⟨hp hi.pe, fun g Zc Z H σ ρ Q E Q' S df dx t => hi.sim g Zc Z H σ ρ _ E _ S (fun J H1 ds n1 a1 w1 wk q1 => ?_) dx t⟩
  intro D0 n
  have S1 := S.ag a1 w1
  have nH : H D0 = none := S.go.back a1 w1 n
  have S2 := S1.growNew (u := .lst []) n
  have np : D0 ∉ Z := S.go.fresh nH
  have n0 : D0 ∉ g.Z0 := fun z => np (S.go.z0 z)
  have stN : Stp Z H1 (D0 :: Z) (upd H1 D0 (.lst [])) := S1.go.stpTo n (Ag.new n)
  refine ⟨fun i m H' => m + i = ds.length ∧ ∃ acc dacc k, Ag g.Z0 H1 H' ∧ SO K CA (g.at k) Zc (D0 :: Z) H' σ ρ ∧ H' D0 = some (.lst acc) ∧ RpAll K CA g.dr (D0 :: Z) H' acc dacc ∧ dLcL tg tt te (wipeD ρ vs) (fun out => Q (.lst out)) dacc (ds.drop i) k,
    ⟨ds.length, rfl, [], [], n1, Ag.new n, S2, upd_same, .nil, q1⟩, ?_⟩
  rintro i m H' ⟨hm, acc, dacc, k2, a2, S', eD, ra, q'⟩
  have st' : Stp Z H1 Z H' := fun b u k e => ⟨k, S1.go.agZ a2 b u k e⟩
  cases hd : ds[i]? with
  | none =>
    have hlen : ds.length ≤ i := List.getElem?_eq_none_iff.mp hd
    obtain rfl : i = ds.length := by omega
    rw [List.drop_length] at q'
    exact .inl ⟨wk.stop Zc (D0 :: Z) H' k2 (S1.go.stpTo n a2) S'.go, df D0 H' _ k2 nH (a1.trans a2) S'.go.wd (.lst eD ra) q'⟩
  | some d =>
    obtain ⟨hlt, ed⟩ := List.getElem?_eq_some_iff.mp hd
    rw [List.drop_eq_getElem_cons hlt, ed] at q'
    have st2 : Stp Z H1 (D0 :: Z) H' := S1.go.stpTo n a2
    obtain ⟨go, yl⟩ := wk.go i Zc (D0 :: Z) H' d k2 st2 S'.go hd
    refine .inr ⟨go, fun H3 => ∃ acc dacc k, Ag g.Z0 H1 H3 ∧ SO K CA (g.at k) Zc (D0 :: Z) H3 σ ρ ∧ H3 D0 = some (.lst acc) ∧ RpAll K CA g.dr (D0 :: Z) H3 acc dacc ∧ dLcL tg tt te (wipeD ρ vs) (fun out => Q (.lst out)) dacc (ds.drop (i + 1)) k,
      fun H3 n3 => ⟨m - 1, by omega, by omega, n3⟩, fun x H2 y2 => ?_⟩
    obtain ⟨a3, w3, r3⟩ := yl x H2 y2
    have S3 := S'.ag a3 w3
    have eD3 := a3 D0 _ n0 eD
    have ra3 := S'.go.rps a3 ra
    have wip : wipe (wipe σ vs) vs = wipe σ vs := wipe_eq (wipe_length _ _) fun j hj => wipe_at hj
    refine hg _ Zc (D0 :: Z) H2 (wipe σ vs) (wipeD ρ vs) x d _ _ (S3.wiped vs) r3 (fun σ2 ρ2 S4 q4 hl hn => ⟨(wipe_eq hl fun j hj => hn j fun z => hj (ho j z)).trans wip, ?_⟩) q'
    refine ht _ Zc (D0 :: Z) H2 σ2 ρ2 _ noX _ S4 (fun b H4 nH4 a4 w4 q5 => ?_) dom0 q4
    have S5 := S4.ag a4 w4
    have eD4 := a4 D0 _ n0 eD3
    have ra4 := S3.go.rps a4 ra3
    have a14 := (a2.trans a3).trans a4
    cases b with
    | false => exact ⟨acc, dacc, nH4, a14, S3.ag a4 w4, eD4, ra4, q5⟩
    | true =>
      refine hel _ Zc (D0 :: Z) H4 σ2 ρ2 _ noX _ S5 (fun y H5 dy nH5 a5 w5 ry q6 => ?_) dom0 q5
      have eD5 := a5 D0 _ n0 eD4
      have ra5 := S5.go.rps a5 ra4
      have S6 := (S3.ag a4 w4).ag a5 w5
      refine ⟨acc, eD5, by rw [ra5.length]; exact q6.1, acc ++ [y], dacc ++ [dy], nH5, (a14.trans a5).mut n, ?_, upd_same, (ra5.append (.cons ry .nil)).ag upd_kz, q6.2⟩
      refine ⟨⟨(g.at nH5).wd (fun b hb => upd_ne (fun z => n0 (z ▸ hb))) w5, S6.go.c0, S6.go.cz, fun b hb => ?_⟩, S6.len, fun j s e => ?_, S6.inj⟩
      · by_cases h : b = D0
        · subst h; exact ⟨_, upd_same⟩
        · obtain ⟨u, e⟩ := S6.go.zin b hb
          exact ⟨u, by rw [upd_ne h]; exact e⟩
      · obtain ⟨v, e1, h⟩ := S6.sl j s e
        refine ⟨v, e1, ?_⟩
        cases s with
        | sh d => exact Rp.ag h upd_kz
        | ow d =>
          obtain ⟨a, ea, h1, h2, h3⟩ := h
          obtain ⟨v0, f1, a0, rfl, g1, _⟩ := S.sl j _ e
          rw [f1] at e1
          cases e1
          cases ea
          have hne : a ≠ D0 := fun z => np (z ▸ g1)
          exact ⟨a, rfl, h1, h2, h3.ag upd_kz fun u q => by rw [upd_ne hne]; exact q⟩
end
end WM
namespace WM
open PySem PySem.Spec PyProof.Rows L2

/-! ### defs, where no object is shown at the moment -/
/-- what a def promises where no guard is under way -/
structure FnG (P : Program) (w : World) (K : PySem.W.Frag) (mg : Str → Option Value) (base : Heap) (k : Nat) (f : Addr) (fd : FuncData) (ps : List Str) (sp : Sp) : Prop where
  ln : ∀ vs H Q E, sp vs H Q E → vs.length = ps.length
  go : ∀ (A : Around) (outer : List Env) (s : Shared) (H : Hp) (args : Args) (us : List Value) (vs : List V) (Q : VK) (E : XK), A.guards = some [] → Room k A → Env0 P w K mg base A outer s H → BindsTo s fd args (ps.zip us) → Vals vs us →
    sp vs H Q E → codeAny (model P w) A (.call (.ref f) args) (CR (L2.CX P w) outer P w H s Q E) s
theorem FnG.mono {P : Program} {w : World} {K : PySem.W.Frag} {mg : Str → Option Value} {base : Heap} {j k : Nat} {f : Addr} {fd : FuncData} {ps : List Str} {sp : Sp} (F : FnG P w K mg base j f fd ps sp) (h : j ≤ k) : FnG P w K mg base k f fd ps sp :=
  ⟨F.ln, fun A o s H a us vs Q E hg hr => F.go A o s H a us vs Q E hg (hr.mono h)⟩
abbrev cxD (P : Program) (w : World) (K : PySem.W.Frag) (mg : Str → Option Value) (base : Heap) (N : List Str) (qual : Str) (st : Stmt) (f : Addr) (cd : Value) (A : Around) (outer : List Env) (s : Shared) (H : Hp) (E : XK) : Cx :=
  cxOf (L2.CX P w) P w K mg base N qual (defScope st) f cd A outer s H E
abbrev wxD (E : XK) : WX := fun cls d _ H => E cls d H
section
variable {P : Program} {w : World} {K : PySem.W.Frag} {mg : Str → Option Value} {base : Heap} {CA : Nat → Addr}
theorem FnG.mk' {nm qual : Str} {st : Stmt} {f : Addr} {fd : FuncData} {N ps : List Str} {k : Nat} {sp : Sp} (F : Fun K nm qual st f fd) (S : FnScope N ps (defScope st)) (ln : ∀ vs H Q E, sp vs H Q E → vs.length = ps.length)
    (body : ∀ (cd : Value) (A : Around) (outer : List Env) (s : Shared) (H : Hp) (vs : List V) (Q : VK) (E : XK), A.guards = some [] → Room k (A.deeper (envOfC qual (defScope st) s.heap.objs.size f cd)) → sp vs H Q E →
      ∃ t, PSs (cxD P w K mg base N qual st f cd A outer s H E) (defBody st) t ∧ t { nx := fun _ H2 => Q .non H2, rt := Q } (start N vs) H) : FnG P w K mg base (k + 1) f fd ps sp := by
  obtain ⟨x1, x2, x3, x4, x5, x6, cd, x8, x9, rfl, look, code⟩ := F.ex
  refine ⟨ln, fun A outer s H args us vs Q E hg room e0 bd rv hs => ?_⟩
  have len1 := ln _ _ _ _ hs
  have kin : K.In s.heap := e0.mod.kin.keeps fun b o e => (e0.bs b o e).1
  have nl : s.heap.NoLimit := e0.mod.nolimit.keeps fun b o e => (e0.bs b o e).1
  have kinds : ∀ y, y ∈ ps.zip us → (defScope st).names.lookup y.1 = some .local ∨ ((defScope st).names.lookup y.1 = some .cell ∧ ((cellsFrom (s.heap.objs.size + 1) (defScope st).names []).lookup y.1).isSome = true) := by
    rintro ⟨a, b⟩ hm
    exact (S.par a (List.of_mem_zip hm).1).imp id fun q => ⟨q, PySem.W.cellsFrom_some _ _ _ (.inl q)⟩
  refine codeAny_call_function room.depth (kin _ _ look) rfl S.co S.gen rfl (PySem.W.codeRec_of kin code) (bd _ _ _ _ (wpAny_newFunctionEnv_cells S.kind kinds fun env ee s1 hc => ?_))
  cases ee
  refine ⟨nl.keeps hc.toInCall.keep, codeAny_func ?_⟩
  obtain ⟨t, ht, hq⟩ := body cd A outer s H vs Q E hg (room.deeper _) hs
  have inv : Inv (cxD P w K mg base N qual st f cd A outer s H E) [] (start N vs) H s1 := inv_start S room.hd e0 len1 rv hc
  have back : ∀ {σ' : L2.St} {H2 : Hp} {v : V} {u : Value} {s2 : Shared}, Inv (cxD P w K mg base N qual st f cd A outer s H E) [] σ' H2 s2 → RelV v u → Q v H2 → CE outer P w H s Q u s2 := fun {_ H2 v _ _} J r q => ⟨v, H2, J.os, J.bare, J.base, J.hok, r, q⟩
  refine wpAny_mono (ht.run [] s1 (start N vs) H _ inv hq) (fun fl s2 h2 => ?_) fun _ _ z => z
  rcases fl with _ | _ | _ | u
  · obtain ⟨_, _, J, q⟩ := h2
    exact back (v := V.non) (u := Value.none) J rfl q
  · obtain ⟨_, _, _, q⟩ := h2; exact False.elim q
  · obtain ⟨_, _, _, q⟩ := h2; exact False.elim q
  · obtain ⟨_, _, _, J, r, q⟩ := h2
    exact back J r q

/-! ### promises about data -/
abbrev FD := List D → (D → NP) → EX → NP
def spD (K : PySem.W.Frag) (CA : Nat → Addr) (m : Nat) (F : FD) : Sp := fun vs H Q E => vs.length = m ∧ ∃ (g : Gd) (Z : List Addr) (ds : List D) (QD : D → NP) (ED : EX), GO g Z Z H ∧ RpAll K CA g.dr Z H vs ds ∧ F ds QD ED g.b ∧
  (∀ v H' d n, Ag g.Z0 H H' → (g.at n).Wd H' → Rp K CA g.dr Z H' v d → QD d n → Q v H') ∧ ∀ cls dd H' c fs n, Ag g.Z0 H H' → (g.at n).Wd H' → XR K CA g.dr Z H' cls dd c fs → ED c fs n → E cls dd H'
/-- the slots at a def's entry -/
def startD (N : Nat) (ds : List D) : DE := ds.map (fun d => some (.sh d)) ++ List.replicate (N - ds.length) none
def bodyF (N : Nat) (u : SD) : FD := fun ds Q E => u { nx := fun _ => Q .non, rt := Q, ex := fun _ => E } (startD N ds)
theorem so_start {g : Gd} {Z : List Addr} {H : Hp} {vs : List V} {ds : List D} (N : List Str) (hl : vs.length ≤ N.length) (go : GO g Z Z H) (r : RpAll K CA g.dr Z H vs ds) : SO K CA g Z Z H (start N vs) (startD N.length ds) := by
  have hds := r.length
  have at_ : ∀ i s, (startD N.length ds)[i]? = some (some s) → ∃ d, ds[i]? = some d ∧ s = Sl.sh d := fun i s e => by
    unfold startD at e
    by_cases hi : i < ds.length
    · rw [List.getElem?_append_left (by simpa using hi), List.getElem?_map] at e
      cases q : ds[i]? with
      | none => rw [q] at e; cases e
      | some d => rw [q] at e; cases e; exact ⟨d, q, rfl⟩
    · rw [List.getElem?_append_right (by simpa using hi), List.getElem?_replicate] at e
      split at e <;> cases e
  refine ⟨go, by simp [L2.start, startD, hds], fun i s e => ?_, fun i j x y v e1 _ _ _ => ?_⟩
  · obtain ⟨d, e1, rfl⟩ := at_ i s e
    obtain ⟨v, e2, rv⟩ := r.getD e1
    refine ⟨v, ?_, rv⟩
    unfold L2.start
    have hi := (List.getElem?_eq_some_iff.mp e2).1
    rw [List.getElem?_append_left (by simpa using hi), List.getElem?_map, e2]
    rfl
  · obtain ⟨_, _, z⟩ := at_ i _ e1
    cases z
/-- a def, by the reading of its body -/
theorem okD {nm qual : Str} {st : Stmt} {f : Addr} {fd : FuncData} {N ps : List Str} {k m n : Nat} {u : SD} (F : Fun K nm qual st f fd) (S : FnScope N ps (defScope st)) (hm : ps.length = m) (hn : N.length = n)
    (hb : ∀ (cd : Value) (A : Around) (outer : List Env) (s : Shared) (H : Hp) (E : XK), A.guards = some [] → Room k (A.deeper (envOfC qual (defScope st) s.heap.objs.size f cd)) →
      Takes (cxD P w K mg base N qual st f cd A outer s H E) (wxD E) → ∃ tS, WSs (cxD P w K mg base N qual st f cd A outer s H E) K CA (wxD E) (defBody st) tS u) : FnG P w K mg base (k + 1) f fd ps (spD K CA m (bodyF n u)) := by
  subst hm hn
  refine FnG.mk' F S (fun vs H Q E h => h.1) fun cd A outer s H vs Q E hg hr h => ?_
  obtain ⟨hl, g, Z, ds, QD, ED, go, r, q, hv, hx⟩ := h
  obtain ⟨t, ws⟩ := hb cd A outer s H E hg hr (takes_of rfl rfl rfl rfl)
  have hle : vs.length ≤ N.length := by
    have := congrArg List.length S.pre
    rw [List.length_take] at this
    omega
  refine ⟨t, ws.pe, ws.sim g Z H Z H _ _ { nx := fun _ => QD .non, rt := QD, ex := fun _ => ED } _ ⟨Ag.refl, fun b h => .inl h⟩ (so_start N hle go r) ⟨fun Z' H' σ ρ n _ Fr' S' q => hv .non H' .non n Fr'.ag S'.go.wd .non q, hv, fun _ _ _ _ _ _ _ _ z => z.elim, fun _ _ _ _ _ _ _ _ z => z.elim, fun cls dd Z' H' σ ρ c fs n _ Fr' S' xr e => hx cls dd H' c fs n Fr'.ag S'.go.wd ?_ e⟩ q⟩
  obtain ⟨x1, x2⟩ := xr
  refine ⟨x1, x2.imp id ?_⟩
  rintro ⟨x, hf, y1, y2, y3, y4, y5⟩
  exact ⟨x, hf, y1, fun z => y2 (S'.go.cz _ z), y3, y4, y5.zone S'.go.cz⟩
/-- a def of the module -/
structure Df (P : Program) (w : World) (K : PySem.W.Frag) (mg : Str → Option Value) (base : Heap) (CA : Nat → Addr) (nm : Str) (k : Nat) (ps : List Str) (F : FD) : Prop where
  ex : ∃ (f : Addr) (fd : FuncData), FnG P w K mg base k f fd ps (spD K CA ps.length F) ∧ mg nm = some (.ref f) ∧ PySem.W.keepIn K (.ref f) = true ∧ Binds K fd ps [] ∧ ∀ (s : Shared) (us : List Value), us.length = ps.length → BindsTo s fd ⟨[], ps.zip us⟩ (ps.zip us)
end
def dCall (m : Nat) (F : FD) (ts : TDs) : TD := fun ρ Q E => ts ρ (fun ds n => ds.length = m ∧ F ds Q E n) E
section
variable {X : Cx} {K : PySem.W.Frag} {CA : Nat → Addr} {W : WX} {e : Expr} {es : List Expr} {pos p : Pos} {hs : TA} {ts : TDs} {x : Str} {k : Nat} {ps : List Str} {F : FD}
theorem GO.inn {g : Gd} {Zc Z : List Addr} {H : Hp} (o : GO g Zc Z H) : GO g Z Z H := ⟨o.wd, fun _ h => o.z0 h, fun _ h => h, o.zin⟩
theorem run_fnG {f : Addr} {fd : FuncData} {sp : Sp} {Ex : L2.St → XK} {pins : List (Addr × Obj)} {σ : L2.St} {H : Hp} {s : Shared} {Q : VK} {args : Args} {us : List Value} {vs : List V} (G : FnG X.prog X.w X.K X.mg X.base k f fd ps sp) (hG : X.A.guards = some []) (hr : Room k X.A)
    (hb : us.length = ps.length → BindsTo s fd args (ps.zip us)) (hx : PassesAt (L2.CX X.prog X.w) X σ (Ex σ)) (I : Inv X pins σ H s) (r : Vals vs us) (h : sp vs H Q (Ex σ)) : codeAny (model X.prog X.w) X.A (.call (.ref f) args) (fun r s' => match r with | .ok (.ret u) => EP X pins σ Q u s' | .ok _ => False | .error e => X.xe e s') s := by
  refine codeAny_mono (G.go X.A X.stack s H args us vs Q (Ex σ) hG hr I.env0 (hb (by rw [← r.length]; exact G.ln _ _ _ _ h)) r h) fun r s' hq => ?_
  rcases r with e | fl
  · exact hx pins H s e s' I hq
  · rcases fl with _ | _ | _ | u
    · exact hq.elim
    · exact hq.elim
    · exact hq.elim
    · exact I.after hq
theorem sim_call {tA : TA} {m : Nat} (h : SimA K CA W tA ts) : SimE K CA W (tCallS (spD K CA m F) (L2.WE W) tA) (dCall m F ts) := fun g Zc Z H σ ρ Q E Q' S dv dx t =>
  h g Zc Z H σ ρ _ E _ S (fun vs H1 ds n1 a1 w1 r1 q1 => ⟨r1.length.trans q1.1, g.at n1, Z, ds, Q, E, (S.go.ag a1 w1).inn, r1, q1.2, fun v H' d n a w r q => dv v H' d n (a1.trans a) w r q, fun cls dd H' c fs n a w r q => dx cls dd H' c fs n (a1.trans a) w r q⟩) dx t
/-- f(e, ..) -/
theorem we_call (G : Df X.prog X.w X.K X.mg X.base CA x k ps F) (hG : X.A.guards = some []) (hr : Room k X.A) (tk : Takes X W) (h : WA X K CA W (e :: es) hs ts) (hg : Gl X x := by rfl) (hK : X.K = K := by rfl)
    (hdb : (x == ("__debug__" : Str)) = false := by decide) (he : starEach (e :: es) X.env = (false, eval e X.env) :: starEach es X.env := by rfl) (hpl : (backTo pos (starEach es X.env)).any (·.1) = false := by rfl) :
    WE X K CA W (.Call (.Name x p) (e :: es) [] pos) (tCallS (spD K CA ps.length F) (L2.WE W) hs) (dCall ps.length F ts) := by
  subst hK
  obtain ⟨f, fd, G1, hm, hk, hb, _⟩ := G.ex
  refine ⟨⟨fun pins s σ H Q I hq => wpAny_Call_Name_kw (ld_glob I hg hm ?_ hdb)⟩, sim_call h.sim⟩
  refine PySem.W.callWith_K (h₀ := X.base) I.ok.mod.kin hk (thn (h.pe.run pos pins s σ H _ I hq) fun us s1 ⟨vs, H1, I1, r, q⟩ => ⟨I1.kIn, wpAny_call (codeAny_mono (run_fnG G1 hG hr (fun hl => ?_) (passAt tk σ) I1 r q) fun r s' hq => ?_)⟩) he hpl
  · have := hb s1 us I1.kIn (by rw [List.append_nil]; exact hl)
    rw [List.append_nil] at this
    exact this
  · rcases r with e | fl
    · exact hq
    · rcases fl with _ | _ | _ | u <;> exact hq
/-- f(a = e, ..): all arguments by name, in the parameters' order -/
structure WK (X : Cx) (K : PySem.W.Frag) (CA : Nat → Addr) (W : WX) (kws : List Keyword) (hs : TA) (ts : TDs) : Prop where
  pe : PK X kws hs
  sim : SimA K CA W hs ts
theorem wk_nil : WK X K CA W [] L2.tNil dNil := ⟨pk_nil, fun g Zc Z H σ ρ Q E Q' S dv dx t => dv [] H [] _ Ag.refl S.go.wd .nil t⟩
theorem wk_cons {nm : Option Str} {kpos : Pos} {kws : List Keyword} {ha : TE} {ta : TD} (h : WE X K CA W e ha ta) (h' : WK X K CA W kws hs ts) : WK X K CA W (⟨nm, e, kpos⟩ :: kws) (L2.tCons ha hs) (dCons ta ts) := by
  refine ⟨pk_cons h.pe h'.pe, fun g Zc Z H σ ρ Q E Q' S dv dx t => h.sim g Zc Z H σ ρ _ E _ S (fun v H1 d n1 a1 w1 r1 q1 => ?_) dx t⟩
  exact h'.sim _ Zc Z H1 σ ρ _ E _ (S.ag a1 w1) (fun vs H2 ds n2 a2 w2 r2 q2 => dv (v :: vs) H2 (d :: ds) _ (a1.trans a2) w2 (.cons ((S.ag a1 w1).go.rp a2 r1) r2) q2) (dx.ag a1) q1
theorem we_callKw {kws : List Keyword} (G : Df X.prog X.w X.K X.mg X.base CA x k ps F) (hG : X.A.guards = some []) (hr : Room k X.A) (tk : Takes X W) (h : WK X K CA W kws hs ts) (hg : Gl X x := by rfl) (hK : X.K = K := by rfl)
    (hall : (backToKw pos (keywordEach kws X.env)).all (·.1.isSome) = true := by rfl) (hks : (backToKw pos (keywordEach kws X.env)).filterMap (·.1) = ps := by rfl) (hdb : (x == ("__debug__" : Str)) = false := by decide)
    (hpl : ((backTo pos (starEach [] X.env)).any (·.1) || (backToKw pos (keywordEach kws X.env)).any (·.1.isNone)) = false := by rfl) :
    WE X K CA W (.Call (.Name x p) [] kws pos) (tCallS (spD K CA ps.length F) (L2.WE W) hs) (dCall ps.length F ts) := by
  subst hK
  obtain ⟨f, fd, G1, hm, hk, _, hb⟩ := G.ex
  refine ⟨⟨fun pins s σ H Q I hq => wpAny_Call_Name_kw (ld_glob I hg hm ?_ hdb)⟩, sim_call h.sim⟩
  refine PySem.W.callWith_KW0 (h₀ := X.base) I.ok.mod.kin hk hall (thn (h.pe.run pos pins s σ H _ I hq) fun us s1 ⟨vs, H1, I1, r, q⟩ => ⟨I1.kIn, wpAny_call (codeAny_mono (run_fnG G1 hG hr (fun hl => ?_) (passAt tk σ) I1 r q) fun r s' hq => ?_)⟩) hpl
  · rw [hks]
    exact hb s1 us hl
  · rcases r with e | fl
    · exact hq
    · rcases fl with _ | _ | _ | u <;> exact hq
end

/-! ### built-ins -/
mutual
theorem toP_noDict : ∀ (d : D) (p : PyData), toP d = some p → p.hasDict = false
  | .non, p, h => by simp only [toP, Option.some.injEq] at h; subst h; rfl
  | .bl _, p, h => by simp only [toP, Option.some.injEq] at h; subst h; rfl
  | .int _, p, h => by simp only [toP, Option.some.injEq] at h; subst h; rfl
  | .str _, p, h => by simp only [toP, Option.some.injEq] at h; subst h; rfl
  | .lst ds, p, h => by
    simp only [toP, Option.map_eq_some_iff] at h
    obtain ⟨ps, h1, rfl⟩ := h
    simp only [PyData.hasDict]
    exact toPs_noDict ds ps h1
  | .tup ds, p, h => by
    simp only [toP, Option.map_eq_some_iff] at h
    obtain ⟨ps, h1, rfl⟩ := h
    simp only [PyData.hasDict]
    exact toPs_noDict ds ps h1
  | .dct _, _, h => by simp [toP] at h
  | .obj _ _, _, h => by simp [toP] at h
  | .scr _, _, h => by simp [toP] at h
  | .draw, _, h => by simp [toP] at h
  | .ty _, _, h => by simp [toP] at h
  | .cls _, _, h => by simp [toP] at h
  | .me _, _, h => by simp [toP] at h
theorem toPs_noDict : ∀ (ds : List D) (ps : List PyData), toPs ds = some ps → PyData.hasDictAll ps = false
  | [], ps, h => by simp only [toPs, Option.some.injEq] at h; subst h; rfl
  | d :: ds, ps, h => by
    simp only [toPs] at h
    split at h
    · rename_i q qs h1 h2
      simp only [Option.some.injEq] at h
      subst h
      simp only [PyData.hasDictAll, toP_noDict d q h1, toPs_noDict ds qs h2, Bool.or_self]
    · cases h
end
/-- repr of a list or a tuple of plain data -/
def rShow (K : PySem.W.Frag) : List V → Hp → VK → Prop := fun xs H Q => ∃ a p, xs = [V.ref a] ∧ Dp K H (V.ref a) p ∧ p.hasDict = false ∧ p.showable = true ∧ p.depth ≤ 60 ∧ p.shown.length ≤ sizeLine ∧ Q (.str p.shown) H
def fShow : List D → (D → Prop) → Prop
  | [.lst ds], Q => ∃ p, toP (.lst ds) = some p ∧ p.showable = true ∧ p.depth ≤ 60 ∧ p.shown.length ≤ sizeLine ∧ Q (.str p.shown)
  | [.tup ds], Q => ∃ p, toP (.tup ds) = some p ∧ p.showable = true ∧ p.depth ≤ 60 ∧ p.shown.length ≤ sizeLine ∧ Q (.str p.shown)
  | _, _ => False
section
variable {X : Cx} {K : PySem.W.Frag} {CA : Nat → Addr} {W : WX}
theorem call_show (hG : X.A.guards = some []) (hu : X.A.units + 64 < cLine) (hK : X.K = K := by rfl) : CallR X (.builtin "repr") (rShow K) := by
  subst hK
  rintro pins s σ H xs us Q I r ⟨a, p, rfl, dp, nd, sh, dep, sz, q⟩
  obtain ⟨u, rfl, rx⟩ := vals1 r
  cases (show u = Value.ref a from rx)
  obtain ⟨as, rd⟩ := Dp.reads I p (V.ref a) _ dp rfl
  exact repr_of_reads' rd sh (PyData.noDict_hsm nd) hG (by omega) (fun _ _ e => e) (fun h' u tk hk => ⟨.str p.shown, H, I.kept hk, ⟨u, rfl⟩, q⟩) sz
theorem sim_show : SimC K CA (rShow K) fShow := by
  intro g Zc Z H xs ds Q Q' o r dv t
  match ds, r, t with
  | [.lst es], .cons r1 .nil, t =>
    obtain ⟨p, h1, h2, h3, h4, q⟩ := t
    obtain ⟨a, ys, rfl, e1, _, _⟩ := rp_lst r1
    exact ⟨a, p, rfl, rp_dp _ _ p r1 h1, toP_noDict _ p h1, h2, h3, h4, dv.here o (.str _) q⟩
  | [.tup es], .cons r1 .nil, t =>
    obtain ⟨p, h1, h2, h3, h4, q⟩ := t
    obtain ⟨a, ys, rfl, e1, _⟩ := rp_tup r1
    exact ⟨a, p, rfl, rp_dp _ _ p r1 h1, toP_noDict _ p h1, h2, h3, h4, dv.here o (.str _) q⟩
/-- len -/
def fLen : List D → (D → Prop) → Prop
  | [.lst ds], Q => Q (.int ds.length)
  | [.tup ds], Q => Q (.int ds.length)
  | [.scr ds], Q => Q (.int ds.length)
  | [.str z], Q => z.length ≤ sizeLine ∧ Q (.int z.length)
  | [.dct ds], Q => Q (.int ds.length)
  | _, _ => False
def rLenU (K : PySem.W.Frag) : List V → Hp → VK → Prop := fun xs H Q => (∃ p ys, xs = [V.ref p] ∧ (SqL K H p ys ∨ SqT K H p ys) ∧ Q (.int ys.length) H) ∨ ((∃ z, xs = [V.str z] ∧ z.length ≤ sizeLine ∧ Q (.int z.length) H) ∨ ∃ a kvs, xs = [V.ref a] ∧ H a = some (.dK kvs) ∧ Q (.int kvs.length) H)
theorem call_lenU (hK : X.K = K := by rfl) : CallR X (.builtin "len") (rLenU K) := by subst hK; exact call_len_seq.or (call_len_str.or call_lenD)
theorem sim_len : SimC K CA (rLenU K) fLen := by
  intro g Zc Z H xs ds Q Q' o r dv t
  match ds, r, t with
  | [.lst es], .cons r1 .nil, t =>
    obtain ⟨a, ys, rfl, e1, _, r2⟩ := rp_lst r1
    exact .inl ⟨a, ys, rfl, .inl (.of e1), by rw [r2.length]; exact dv.here o (.int _) t⟩
  | [.tup es], .cons r1 .nil, t =>
    obtain ⟨a, ys, rfl, e1, r2⟩ := rp_tup r1
    exact .inl ⟨a, ys, rfl, .inr e1, by rw [r2.length]; exact dv.here o (.int _) t⟩
  | [.scr es], .cons r1 .nil, t =>
    have t' : Q (.int es.length) := t
    cases r1 with
    | scr n e => exact .inl ⟨_, _, rfl, .inl (.inl (.inr ⟨_, e⟩)), by rw [List.length_map]; exact dv.here o (.int _) t'⟩
    | kscr e => exact .inl ⟨_, _, rfl, .inl (sl_emp e), by rw [List.length_map]; exact dv.here o (.int _) t'⟩
  | [.str z], .cons r1 .nil, t =>
    cases r1
    exact .inr (.inl ⟨z, rfl, t.1, dv.here o (.int _) t.2⟩)
  | [.dct es], .cons r1 .nil, t =>
    obtain ⟨a, kvs, rfl, e1, _, en, _⟩ := rp_dct r1
    have hl : kvs.length = es.length := by simpa using congrArg List.length en
    exact .inr (.inr ⟨a, kvs, rfl, e1, by rw [hl]; exact dv.here o (.int _) t⟩)
/-- isinstance(x, T) -/
def fIsi (T : String) : D → Option Bool := fun d => (tyN d).bind fun n => kitB n T
def fIsI : List D → (D → Prop) → Prop
  | [d, .ty T], Q => ∃ b, fIsi T d = some b ∧ Q (.bl b)
  | _, _ => False
theorem call_isiU (hK : X.K = K := by rfl) : CallR X (.builtin "isinstance") (rIsi K) := by subst hK; exact call_isi
theorem sim_isi : SimC K CA (rIsi K) fIsI := by
  intro g Zc Z H xs ds Q Q' o r dv t
  match ds, r, t with
  | [d, .ty T], .cons r1 (.cons r2 .nil), t =>
    obtain ⟨b, hb, q⟩ := t
    cases r2
    unfold fIsi at hb
    cases e : tyN d with
    | none => rw [e] at hb; cases hb
    | some n =>
      rw [e] at hb
      exact ⟨_, _, .type n, .type T, b, rfl, .ty T, rp_ty r1 e, kit_ty hb, dv.here o (.bl _) q⟩
/-- list(x), tuple(x) -/
def fListOf : List D → (D → Prop) → Prop
  | [.lst ds], Q => Q (.lst ds)
  | [.tup ds], Q => Q (.lst ds)
  | _, _ => False
def fTupOf : List D → (D → Prop) → Prop
  | [.lst ds], Q => Q (.tup ds)
  | [.tup ds], Q => Q (.tup ds)
  | _, _ => False
def rListOf (K : PySem.W.Frag) : List V → Hp → VK → Prop := fun xs H Q => ∃ p ys, xs = [V.ref p] ∧ (SqL K H p ys ∨ SqT K H p ys) ∧ ∀ l, H l = none → Q (.ref l) (upd H l (.lst ys))
def rTupOf (K : PySem.W.Frag) : List V → Hp → VK → Prop := fun xs H Q => ∃ p ys, xs = [V.ref p] ∧ ((SqL K H p ys ∧ ∀ l, H l = none → Q (.ref l) (upd H l (.tup ys))) ∨ (SqT K H p ys ∧ Q (.ref p) H))
theorem call_listOf (hK : X.K = K := by rfl) : CallR X (.type "list") (rListOf K) := by subst hK; exact call_list_of
theorem call_tupOf (hK : X.K = K := by rfl) : CallR X (.type "tuple") (rTupOf K) := by subst hK; exact call_tuple_of
theorem sim_listOf : SimC K CA (rListOf K) fListOf := by
  intro g Zc Z H xs ds Q Q' o r dv t
  match ds, r, t with
  | [.lst es], .cons r1 .nil, t =>
    obtain ⟨a, ys, rfl, e1, _, r2⟩ := rp_lst r1
    exact ⟨a, ys, rfl, .inl (.of e1), fun l n => dv.made o n (.lst (o.fresh n) upd_same (rp_new o n r2)) t⟩
  | [.tup es], .cons r1 .nil, t =>
    obtain ⟨a, ys, rfl, e1, r2⟩ := rp_tup r1
    exact ⟨a, ys, rfl, .inr e1, fun l n => dv.made o n (.lst (o.fresh n) upd_same (rp_new o n r2)) t⟩
theorem sim_tupOf : SimC K CA (rTupOf K) fTupOf := by
  intro g Zc Z H xs ds Q Q' o r dv t
  match ds, r, t with
  | [.lst es], .cons r1 .nil, t =>
    obtain ⟨a, ys, rfl, e1, _, r2⟩ := rp_lst r1
    exact ⟨a, ys, rfl, .inl ⟨.of e1, fun l n => dv.made o n (.tup (o.fresh n) upd_same (rp_new o n r2)) t⟩⟩
  | [.tup es], .cons r1 .nil, t =>
    obtain ⟨a, ys, rfl, e1, r2⟩ := rp_tup r1
    exact ⟨a, ys, rfl, .inr ⟨e1, dv.here o r1 t⟩⟩
/-- min, max, abs, int -/
def fMin : List D → (D → Prop) → Prop
  | [.int i, .int j], Q => Q (.int (if j < i then j else i))
  | _, _ => False
def fMax : List D → (D → Prop) → Prop
  | [.int i, .int j], Q => Q (.int (if j > i then j else i))
  | _, _ => False
def fAbs : List D → (D → Prop) → Prop
  | [.int i], Q => Q (.int (if i < 0 then -i else i))
  | _, _ => False
def fInt : List D → (D → Prop) → Prop
  | [.int i], Q => Q (.int i)
  | [.bl k], Q => Q (.int (if k then 1 else 0))
  | _, _ => False
def rMin : List V → Hp → VK → Prop := fun xs H Q => ∃ i j, xs = [V.int i, V.int j] ∧ Q (.int (if j < i then j else i)) H
def rMax : List V → Hp → VK → Prop := fun xs H Q => ∃ i j, xs = [V.int i, V.int j] ∧ Q (.int (if j > i then j else i)) H
def rAbs : List V → Hp → VK → Prop := fun xs H Q => ∃ i, xs = [V.int i] ∧ Q (.int (if i < 0 then -i else i)) H
def rInt : List V → Hp → VK → Prop := fun xs H Q => (∃ i, xs = [V.int i] ∧ Q (.int i) H) ∨ ∃ k, xs = [V.bl k] ∧ Q (.int (if k then 1 else 0)) H
theorem call_minU (hc : X.calm = true := by rfl) : CallR X (.builtin "min") rMin := call_min2 hc
theorem call_maxU (hc : X.calm = true := by rfl) : CallR X (.builtin "max") rMax := call_max2 hc
theorem sim_min : SimC K CA rMin fMin := by
  intro g Zc Z H xs ds Q Q' o r dv t
  match ds, r, t with
  | [.int i, .int j], .cons (.int _) (.cons (.int _) .nil), t => exact ⟨i, j, rfl, dv.here o (.int _) t⟩
theorem sim_max : SimC K CA rMax fMax := by
  intro g Zc Z H xs ds Q Q' o r dv t
  match ds, r, t with
  | [.int i, .int j], .cons (.int _) (.cons (.int _) .nil), t => exact ⟨i, j, rfl, dv.here o (.int _) t⟩
theorem sim_abs : SimC K CA rAbs fAbs := by
  intro g Zc Z H xs ds Q Q' o r dv t
  match ds, r, t with
  | [.int i], .cons (.int _) .nil, t => exact ⟨i, rfl, dv.here o (.int _) t⟩
theorem sim_int : SimC K CA rInt fInt := by
  intro g Zc Z H xs ds Q Q' o r dv t
  match ds, r, t with
  | [.int i], .cons (.int _) .nil, t => exact .inl ⟨i, rfl, dv.here o (.int _) t⟩
  | [.bl i], .cons (.bl _) .nil, t => exact .inr ⟨i, rfl, dv.here o (.int _) t⟩
end
end WM
namespace WM
open PySem PySem.Spec PyProof.Rows L2

/-! ### comprehensions' blocks -/
structure WTs (X : Cx) (K : PySem.W.Frag) (CA : Nat → Addr) (W : WX) (ifs : List Expr) (tH : TT) (t : TB) : Prop where
  pe : PTs X ifs tH
  sim : SimT K CA W tH t
section
variable {X : Cx} {K : PySem.W.Frag} {CA : Nat → Addr} {W : WX} {e a b c elt tge iter : Expr} {ifs : List Expr} {es : List Expr} {pos p : Pos} {hs : TA} {ts : TDs} {hT hB : TT} {tt tB : TB} {gH : TG} {tg : TGD} {he ha hb hv : TE} {te ta tb tv tm : TD} {wH : TI} {ti : TDs} {st : Stmt}
theorem wts_nil : WTs X K CA W [] L2.tYes dYes := ⟨pts_nil, fun g Zc Z H σ ρ Q E Q' S dv dx t => dv true H g.b Ag.refl S.go.wd t⟩
theorem wts_one (h : WT X K CA W c hB tB) : WTs X K CA W [c] hB tB := ⟨pts_one h.pe, h.sim⟩
theorem wf_lcB {scope : Scope} {own : List (Str × Nat)} {sl : List Nat} (hc : X.calm = true) (hN : X.N.Nodup) (hi : WI X K CA W tge iter wH ti) (ok : BlkOk X.N X.env.scope scope own)
    (hg : ∀ (s : Shared) (H : Hp) (C : Addr) (cl : List (Str × Addr)) (fp : List Addr), WG (X.blk s H scope (compEnvC scope cl C X.env) fp) K CA tge sl gH tg)
    (ht : ∀ (s : Shared) (H : Hp) (C : Addr) (cl : List (Str × Addr)) (fp : List Addr), WTs (X.blk s H scope (compEnvC scope cl C X.env) fp) K CA W0 ifs hT tt)
    (hel : ∀ (s : Shared) (H : Hp) (C : Addr) (cl : List (Str × Addr)) (fp : List Addr), WE (X.blk s H scope (compEnvC scope cl C X.env) fp) K CA W0 elt he te)
    (ho : ∀ j, j ∈ sl → j ∈ own.map (·.2)) (hs : ∀ x, foldedSetIterable iter X.env x = pure x := by intro _; rfl) : WF X K CA W (.ListComp elt [⟨tge, iter, ifs, 0⟩] scope pos) (tLc wH gH hT he (own.map (·.2))) (dLc ti tg tt te (own.map (·.2))) :=
  wf_lc hi (hg X.s_0 X.H_0 0 [] []).sim (ht X.s_0 X.H_0 0 [] []).sim (hel X.s_0 X.H_0 0 [] []).sim ho fun pi => pe_lc hc hN pi ok (fun s H C cl fp => (hg s H C cl fp).pe) (fun s H C cl fp => (ht s H C cl fp).pe) (fun s H C cl fp => (hel s H C cl fp).pe) hs
/-- name = [..] -/
theorem ws_setLcO {i : Nat} {y : Str} {py spos : Pos} {scope : Scope} {own : List (Str × Nat)} {sl : List Nat} (hc : X.calm = true) (hN : X.N.Nodup) (hy : X.N[i]? = some y) (hyl : X.env.scope.names.lookup y = some .local)
    (hi : WI X K CA W tge iter wH ti) (ok : BlkOk X.N X.env.scope scope own)
    (hg : ∀ (s : Shared) (H : Hp) (C : Addr) (cl : List (Str × Addr)) (fp : List Addr), WG (X.blk s H scope (compEnvC scope cl C X.env) fp) K CA tge sl gH tg)
    (ht : ∀ (s : Shared) (H : Hp) (C : Addr) (cl : List (Str × Addr)) (fp : List Addr), WTs (X.blk s H scope (compEnvC scope cl C X.env) fp) K CA W0 ifs hT tt)
    (hel : ∀ (s : Shared) (H : Hp) (C : Addr) (cl : List (Str × Addr)) (fp : List Addr), WE (X.blk s H scope (compEnvC scope cl C X.env) fp) K CA W0 elt he te)
    (ho : ∀ j, j ∈ sl → j ∈ own.map (·.2)) (hsw : swapsWith (.ListComp elt [⟨tge, iter, ifs, 0⟩] scope pos) (some (.Name y py)) spos.line X.env = pure true := by rfl) (hs : ∀ x, foldedSetIterable iter X.env x = pure x := by intro _; rfl) :
    WS X K CA W (.Assign [.Name y py] (.ListComp elt [⟨tge, iter, ifs, 0⟩] scope pos) spos) (tAsg (tLc wH gH hT he (own.map (·.2))) (gName i)) (dAsgO (dLc ti tg tt te (own.map (·.2))) i) :=
  ws_setO (wf_lcB (pos := pos) hc hN hi ok hg ht hel ho hs) fun _ => ps_setLc hc hN hy hyl hsw hi.pe ok (fun s H C cl fp => (hg s H C cl fp).pe) (fun s H C cl fp => (ht s H C cl fp).pe) (fun s H C cl fp => (hel s H C cl fp).pe) hs

/-! ### the draws -/
abbrev rIxU (K : PySem.W.Frag) : R2 := fun x y H Q => rIx K x y H Q ∨ ∃ a v, x = .ref a ∧ DGet H a y (some v) ∧ Q v H
abbrev drL (wl cl : Addr) (r t : Int) : List (Key × V) := [(.inr "wide", .ref wl), (.inr "cells", .ref cl), (.inr "rest", .int r), (.inr "turn", .int t)]
theorem s_wc : ¬ (("wide" : Str) = "cells") := by decide +kernel
theorem k_wc : ¬ ((.inr "wide" : Key) = .inr "cells") := fun z => s_wc (Sum.inr.inj z)
theorem s_wr : ¬ (("wide" : Str) = "rest") := by decide +kernel
theorem k_wr : ¬ ((.inr "wide" : Key) = .inr "rest") := fun z => s_wr (Sum.inr.inj z)
theorem s_wt : ¬ (("wide" : Str) = "turn") := by decide +kernel
theorem k_wt : ¬ ((.inr "wide" : Key) = .inr "turn") := fun z => s_wt (Sum.inr.inj z)
theorem s_cr : ¬ (("cells" : Str) = "rest") := by decide +kernel
theorem k_cr : ¬ ((.inr "cells" : Key) = .inr "rest") := fun z => s_cr (Sum.inr.inj z)
theorem s_ct : ¬ (("cells" : Str) = "turn") := by decide +kernel
theorem k_ct : ¬ ((.inr "cells" : Key) = .inr "turn") := fun z => s_ct (Sum.inr.inj z)
theorem s_rt : ¬ (("rest" : Str) = "turn") := by decide +kernel
theorem k_rt : ¬ ((.inr "rest" : Key) = .inr "turn") := fun z => s_rt (Sum.inr.inj z)
theorem s_tr : ¬ (("turn" : Str) = "rest") := by decide +kernel
theorem k_tr : ¬ ((.inr "turn" : Key) = .inr "rest") := fun z => s_tr (Sum.inr.inj z)
section
variable {wl cl : Addr} {r t z : Int}
theorem v_wide : valV (drL wl cl r t) (.inr "wide") = some (.ref wl) := by simp [valV]
theorem v_cells : valV (drL wl cl r t) (.inr "cells") = some (.ref cl) := by rw [drL, valV_neg k_wc]; simp [valV]
theorem v_rest : valV (drL wl cl r t) (.inr "rest") = some (.int r) := by rw [drL, valV_neg k_wr, valV_neg k_cr]; simp [valV]
theorem v_turn : valV (drL wl cl r t) (.inr "turn") = some (.int t) := by rw [drL, valV_neg k_wt, valV_neg k_ct, valV_neg k_rt]; simp [valV]
theorem put_rest : putK (drL wl cl r t) (.inr "rest") (.int z) = drL wl cl z t := by simp [putK, drL, s_wr, s_cr, s_tr]
theorem put_turn : putK (drL wl cl r t) (.inr "turn") (.int z) = drL wl cl r z := by simp [putK, drL, s_wt, s_ct, s_rt]
end
theorem drawn {g : Gd} {Zc Z : List Addr} {H : Hp} {σ : L2.St} {ρ : DE} {i : Nat} (S : SO K CA g Zc Z H σ ρ) (e : ρ[i]? = some (some (.sh .draw))) : ∃ a, σ[i]? = some (some (.ref a)) ∧ g.dr = some a ∧ DrawOk a g.wl g.cl g.cs g.b H := by
  obtain ⟨v, e1, h⟩ := S.sl i _ e
  cases h with
  | draw q => exact ⟨_, e1, q, S.go.wd _ q⟩
def dTurn (i : Nat) : TD := fun ρ Q _ n => ρ[i]? = some (some (.sh .draw)) ∧ ∀ t : Int, 0 ≤ t → t + (n : Int) ≤ 1000000000 → Q (.int t) n
def dRest (i : Nat) : TD := fun ρ Q _ n => ρ[i]? = some (some (.sh .draw)) ∧ ∀ r : Int, Q (.int r) n
theorem we_turn {i : Nat} (h : PE X e (L2.tOp (rIxU K) (L2.tVar i) (L2.tC (.str "turn")))) : WE X K CA W e (L2.tOp (rIxU K) (L2.tVar i) (L2.tC (.str "turn"))) (dTurn i) := ⟨h, fun g Zc Z H σ ρ Q E Q' S dv dx t => by
  obtain ⟨e1, q⟩ := t
  obtain ⟨a, e2, _, ws, r, t, h1, h2, h3, h4, h5, h6, h7, h8, h9⟩ := drawn S e1
  exact ⟨_, e2, .inr ⟨a, .int t, rfl, by have := DGet.k (k := .inr "turn") h1; rw [v_turn] at this; exact this, dv.here S.go (.int t) (q t h8 h9)⟩⟩⟩
theorem we_rest {i : Nat} (h : PE X e (L2.tOp (rIxU K) (L2.tVar i) (L2.tC (.str "rest")))) : WE X K CA W e (L2.tOp (rIxU K) (L2.tVar i) (L2.tC (.str "rest"))) (dRest i) := ⟨h, fun g Zc Z H σ ρ Q E Q' S dv dx t => by
  obtain ⟨e1, q⟩ := t
  obtain ⟨a, e2, _, ws, r, t, h1, h2, h3, h4, h5, h6, h7, h8, h9⟩ := drawn S e1
  exact ⟨_, e2, .inr ⟨a, .int r, rfl, by have := DGet.k (k := .inr "rest") h1; rw [v_rest] at this; exact this, dv.here S.go (.int r) (q r)⟩⟩⟩
def dSetTurn (i : Nat) (tv : TD) : SD := fun DD ρ n => ρ[i]? = some (some (.sh .draw)) ∧ tv ρ (fun v m => ∃ (t : Int) (k : Nat), v = .int t ∧ m = k + 1 ∧ 0 ≤ t ∧ t + (k : Int) ≤ 1000000000 ∧ DD.nx ρ k) (DD.ex ρ) n
def dSetRest (i : Nat) (tv : TD) : SD := fun DD ρ n => ρ[i]? = some (some (.sh .draw)) ∧ tv ρ (fun v m => ∃ (r : Int), v = .int r ∧ DD.nx ρ m) (DD.ex ρ) n
theorem in_zone {g : Gd} {a : Addr} (e : g.dr = some a) : a ∈ g.Z0 ∧ g.wl ∈ g.Z0 := by
  have : g.Z0 = [a, g.wl, g.cl] := by
    show zoneOf g.dr g.wl g.cl = _
    rw [e]
    rfl
  rw [this]
  exact ⟨by simp, by simp⟩
theorem draw_upd {g : Gd} {a : Addr} {o : HO} {H : Hp} (e : g.dr = some a) : Ag g.Z0 H (upd H a o) := fun b u n q => by
  have hb : b ≠ a := fun z => n (z ▸ (in_zone e).1)
  rw [upd_ne hb]; exact q
theorem ws_setTurn {i : Nat} (h : WE X K CA W b hv tv) (hp : PE X b hv → PS X st (sDPut (L2.tVar i) (L2.tC (.str "turn")) hv)) : WS X K CA W st (sDPut (L2.tVar i) (L2.tC (.str "turn")) hv) (dSetTurn i tv) := by
  refine ⟨hp h.pe, fun g Zc H0 Z H σ ρ DD D' F S dm q => h.sim g Zc Z H σ ρ _ _ _ S (fun v H1 d n1 a1 w1 r1 q1 => ?_) (dm.domX F S) q.2⟩
  obtain ⟨t, k, rfl, rfl, t0, tk, q1⟩ := q1
  cases r1
  have S1 := S.ag a1 w1
  obtain ⟨a, e2, e3, ws, r, t', h1, h2, h3, h4, h5, h6, h7, h8, h9⟩ := drawn S1 q.1
  refine ⟨.ref a, e2, a, _, rfl, DPut.k (k := .inr "turn") h1 (by show 4 < sizeLine; decide), ?_⟩
  rw [put_turn]
  have nw : g.wl ≠ a := fun z => by rw [z, h1] at h2; cases h2
  have nc : g.cl ≠ a := fun z => by rw [z, h1] at h3; cases h3
  have a2 : Ag g.Z0 H1 (upd H1 a (.dK (drL g.wl g.cl r t))) := draw_upd e3
  have w2 : (g.at k).Wd (upd H1 a (.dK (drL g.wl g.cl r t))) := fun a' e' => by
    have : a = a' := Option.some.inj (e3.symm.trans e')
    subst this
    exact ⟨ws, r, t, upd_same, by rw [upd_ne nw]; exact h2, by rw [upd_ne nc]; exact h3, h4, h5, h6, h7, t0, tk⟩
  exact dm.nx Z _ σ ρ k (S.go.stp (a1.trans a2)) (F.ag' (a1.trans a2)) (S.ag (a1.trans a2) w2) q1
theorem ws_setRest {i : Nat} (h : WE X K CA W b hv tv) (hp : PE X b hv → PS X st (sDPut (L2.tVar i) (L2.tC (.str "rest")) hv)) : WS X K CA W st (sDPut (L2.tVar i) (L2.tC (.str "rest")) hv) (dSetRest i tv) := by
  refine ⟨hp h.pe, fun g Zc H0 Z H σ ρ DD D' F S dm q => h.sim g Zc Z H σ ρ _ _ _ S (fun v H1 d n1 a1 w1 r1 q1 => ?_) (dm.domX F S) q.2⟩
  obtain ⟨z, rfl, q1⟩ := q1
  cases r1
  have S1 := S.ag a1 w1
  obtain ⟨a, e2, e3, ws, r, t', h1, h2, h3, h4, h5, h6, h7, h8, h9⟩ := drawn S1 q.1
  refine ⟨.ref a, e2, a, _, rfl, DPut.k (k := .inr "rest") h1 (by show 4 < sizeLine; decide), ?_⟩
  rw [put_rest]
  have nw : g.wl ≠ a := fun z => by rw [z, h1] at h2; cases h2
  have nc : g.cl ≠ a := fun z => by rw [z, h1] at h3; cases h3
  have a2 : Ag g.Z0 H1 (upd H1 a (.dK (drL g.wl g.cl z t'))) := draw_upd e3
  have w2 : (g.at n1).Wd (upd H1 a (.dK (drL g.wl g.cl z t'))) := fun a' e' => by
    have : a = a' := Option.some.inj (e3.symm.trans e')
    subst this
    exact ⟨ws, z, t', upd_same, by rw [upd_ne nw]; exact h2, by rw [upd_ne nc]; exact h3, h4, h5, h6, h7, h8, h9⟩
  exact dm.nx Z _ σ ρ n1 (S.go.stp (a1.trans a2)) (F.ag' (a1.trans a2)) (S.ag (a1.trans a2) w2) q1
/-- the cells, walked -/
def dCells (i : Nat) : TDs := fun ρ Q _ n => ρ[i]? = some (some (.sh .draw)) ∧ ∀ cs : List Int, (∀ x, x ∈ cs → 0 ≤ x ∧ x < 2147483629) → cs.length ≤ 63 → Q (cs.map D.int) n
theorem wk_ints {g : Gd} {Z : List Addr} {H : Hp} {a : Addr} {ns : List Int} (h : ∀ (Zc Z' : List Addr) (H' : Hp) (n : Nat), Stp Z H Z' H' → GO (g.at n) Zc Z' H' → SqL K H' a (ns.map V.int)) : Wk K CA g Z H (Itl K a) (ns.map D.int) :=
  ⟨fun i Zc Z' H' d n st o hd => by
    rw [List.getElem?_map] at hd
    cases q : ns[i]? with
    | none => rw [q] at hd; cases hd
    | some x =>
      rw [q] at hd
      cases hd
      have e' := h Zc Z' H' n st o
      have hv : (ns.map V.int)[i]? = some (.int x) := by rw [List.getElem?_map, q]; rfl
      refine ⟨⟨_, _, e', hv⟩, fun y H2 yl => ?_⟩
      obtain ⟨rfl, hy⟩ := yl
      have ex := (hy _ e').symm.trans hv
      cases ex
      exact ⟨Ag.refl, o.wd, .int x⟩, fun Zc Z' H' n st o => ⟨_, h Zc Z' H' n st o, by rw [List.length_map, List.length_map]; exact Nat.le_refl _⟩⟩
theorem wi_cells {i : Nat} (h : PE X e (L2.tOp (rIxU K) (L2.tVar i) (L2.tC (.str "cells")))) (hK : X.K = K := by rfl) : WI X K CA W tge e (iSeq K (L2.tOp (rIxU K) (L2.tVar i) (L2.tC (.str "cells")))) (dCells i) :=
  ⟨pi_seq h hK, fun g Zc Z H σ ρ Q E R S dv dx t => by
    obtain ⟨e1, q⟩ := t
    obtain ⟨a, e2, e3, ws, r, t, h1, h2, h3, h4, h5, h6, h7, h8, h9⟩ := drawn S e1
    refine ⟨_, e2, .inr ⟨a, .ref g.cl, rfl, by have := DGet.k (k := .inr "cells") h1; rw [v_cells] at this; exact this, g.cl, rfl, .inl ⟨⟨_, .of h3⟩, dv _ H _ g.b Ag.refl S.go.wd (wk_ints fun Zc Z' H' n st o => ?_) (q g.cs h5 h7)⟩⟩⟩
    obtain ⟨ws', r', t', k1, k2, k3, _⟩ := o.wd a e3
    exact .of k3⟩
/-- the script, walked -/
def dScr (ta : TD) : TDs := fun ρ Q E => ta ρ (fun d n => ∃ ns : List Int, d = .scr ns ∧ Q (ns.map D.int) n) E
theorem wi_scr (h : WE X K CA W a ha ta) (hK : X.K = K := by rfl) : WI X K CA W tge a (iSeq K ha) (dScr ta) := by
  have s := h.sim
  refine ⟨pi_seq h.pe hK, fun g Zc Z H σ ρ Q E R S dv dx t => s g Zc Z H σ ρ _ E _ S (fun v H1 d n1 a1 w1 r1 q1 => ?_) dx t⟩
  obtain ⟨ns, rfl, q1⟩ := q1
  cases r1 with
  | scr n e1 => exact ⟨_, rfl, .inl ⟨⟨_, .inl (.inr ⟨_, e1⟩)⟩, dv _ H1 _ n1 a1 w1 (wk_ints fun Zc Z' H' n st o => .inl (.inr ⟨_, (st _ _ ‹_› e1).2⟩)) q1⟩⟩
  | kscr e1 => exact ⟨_, rfl, .inl ⟨⟨_, sl_emp e1⟩, dv _ H1 _ n1 a1 w1 (wk_ints fun Zc Z' H' n st o => sl_emp e1) q1⟩⟩
mutual
theorem lay_ints : ∀ ns : List Int, PyData.canLayAll0 (ns.map PyData.int) = true
  | [] => rfl
  | n :: ns => by simp only [List.map_cons, PyData.canLayAll0, PyData.canLay0, lay_ints ns, Bool.and_self]
end
theorem dep_ints : ∀ ns : List Int, PyData.depthAll (ns.map PyData.int) = 0
  | [] => rfl
  | n :: ns => by simp only [List.map_cons, PyData.depthAll, PyData.depth, dep_ints ns]; rfl
theorem dp_ints {H : Hp} : ∀ ns : List Int, DpAll K H (ns.map V.int) (ns.map PyData.int)
  | [] => .nil
  | n :: ns => .cons (.int n) (dp_ints ns)
/-- draw['wide'].pop(0) if draw['wide'] != [] else .. -/
def dWide (i : Nat) (tm : TD) : TD := fun ρ Q E n => ρ[i]? = some (some (.sh .draw)) ∧ (∀ r : Int, Q (.int r) n) ∧ tm ρ Q E n
def tWide (K : PySem.W.Frag) (i : Nat) (hm : TE) : TE := L2.tIf (tTest (L2.tOp (fun x y H Q => rNe x y H Q ∨ rNeD K x y H Q) (L2.tOp (rIxU K) (L2.tVar i) (L2.tC (.str "wide"))) (L2.tLst L2.tNil)))
  (tBM K "list" rPopAt (L2.tOp (rIxU K) (L2.tVar i) (L2.tC (.str "wide"))) (L2.tCons (L2.tC (.int 0)) L2.tNil)) hm
theorem we_wide {i : Nat} {hm : TE} (h : WE X K CA W b hm tm) (hp : PE X b hm → PE X e (tWide K i hm)) : WE X K CA W e (tWide K i hm) (dWide i tm) := by
  have s := h.sim
  refine ⟨hp h.pe, fun g Zc Z H σ ρ Q E Q' S dv dx q => ?_⟩
  obtain ⟨e1, q1, q2⟩ := q
  obtain ⟨a, e2, e3, ws, r, t, h1, h2, h3, h4, h5, h6, h7, h8, h9⟩ := drawn S e1
  have gw : ∀ {H' : Hp}, H' a = some (.dK (drL g.wl g.cl r t)) → DGet H' a (.str "wide") (some (.ref g.wl)) := fun {H'} e => by
    have := DGet.k (k := .inr "wide") e
    rw [v_wide] at this
    exact this
  refine ⟨_, e2, .inr ⟨a, .ref g.wl, rfl, gw h1, Nat.zero_le _, fun p n => ?_⟩⟩
  have nw : g.wl ≠ p := ne_of_none h2 n
  have na : a ≠ p := ne_of_none h1 n
  have nc : g.cl ≠ p := ne_of_none h3 n
  have a1 : Ag g.Z0 H (upd H p (.lst [])) := Ag.new n
  have w1 : g.Wd (upd H p (.lst [])) := S.go.wdNew n
  have h2' : (upd H p (.lst [])) g.wl = some (.lst (ws.map V.int)) := by rw [upd_ne nw]; exact h2
  have h1' : (upd H p (.lst [])) a = some (.dK (drL g.wl g.cl r t)) := by rw [upd_ne na]; exact h1
  have h3' : (upd H p (.lst [])) g.cl = some (.lst (g.cs.map V.int)) := by rw [upd_ne nc]; exact h3
  refine .inr ⟨.list (ws.map PyData.int), .list [], .lst (.of h2') (dp_ints ws), .lst (.of upd_same) .nil, ?_, by decide, _, rfl, ?_⟩
  · simp only [SeqAt.shaped, PyData.canLay0, lay_ints, PyData.depth, dep_ints, Bool.true_and]
    decide
  · cases ws with
    | nil => exact s g Zc Z _ σ ρ Q E Q' (S.ag (n := g.b) a1 w1) (dv.ag (n := g.b) a1) (dx.ag (n := g.b) a1) q2
    | cons w ws =>
      refine ⟨_, e2, .inr ⟨a, .ref g.wl, rfl, gw h1', .inl ⟨rfl, _, .of h2'⟩, g.wl, _, 0, 0, .int w, rfl, rfl, h2', by decide, by decide, by simp [seqIndex?], rfl, ?_⟩⟩
      have aw : a ≠ g.wl := fun z => by rw [← z, h1] at h2; cases h2
      refine dv _ _ (.int w) g.b (a1.trans fun b u m e => ?_) (fun a' e' => ?_) (.int w) (q1 w)
      · have hb : b ≠ g.wl := fun z => m (z ▸ (in_zone e3).2)
        rw [upd_ne hb]; exact e
      · have : a = a' := Option.some.inj (e3.symm.trans e')
        subst this
        exact ⟨ws, r, t, by rw [upd_ne aw]; exact h1', upd_same, by rw [upd_ne h4.symm]; exact h3', h4, h5, Nat.le_of_succ_le h6, h7, h8, h9⟩
end
end WM
namespace WM
open PySem PySem.Spec PyProof.Rows L2

/-! ### names of built-ins -/
theorem boot_lenU : bootBuiltins "len" = some (.builtin "len") := by rfl
theorem boot_isinstanceU : bootBuiltins "isinstance" = some (.builtin "isinstance") := by rfl
theorem boot_minU : bootBuiltins "min" = some (.builtin "min") := by rfl
theorem boot_maxU : bootBuiltins "max" = some (.builtin "max") := by rfl
theorem boot_absU : bootBuiltins "abs" = some (.builtin "abs") := by rfl
theorem boot_reprU : bootBuiltins "repr" = some (.builtin "repr") := by rfl
theorem boot_intU : bootBuiltins "int" = some (.type "int") := by rfl
theorem boot_boolU : bootBuiltins "bool" = some (.type "bool") := by rfl
theorem boot_strU : bootBuiltins "str" = some (.type "str") := by rfl
theorem boot_tupleU : bootBuiltins "tuple" = some (.type "tuple") := by rfl
theorem boot_listU : bootBuiltins "list" = some (.type "list") := by rfl
theorem boot_dictU : bootBuiltins "dict" = some (.type "dict") := by rfl
section
variable {X : Cx} {K : PySem.W.Frag} {CA : Nat → Addr} {W : WX} {es : List Expr} {st : Stmt} {hs : TA} {ts : TDs}
theorem ws_par3 {i j l : Nat} (h : WA X K CA W es hs ts) (hp : PA X es hs → PS X st (tPar3 i j l hs)) : WS X K CA W st (tPar3 i j l hs) (dPar3 i j l ts) := by
  refine ⟨hp h.pe, fun g Zc H0 Z H σ ρ DD D' F S dm q => h.sim g Zc Z H σ ρ _ _ _ S (fun vs H1 ds n1 a1 w1 r1 q1 => ?_) (dm.domX F S) q⟩
  obtain ⟨x, y, z, rfl, q1⟩ := q1
  cases r1 with
  | @cons v _ _ _ r1 r2 =>
    cases r2 with
    | @cons v' _ _ _ r2 r3 =>
      cases r3 with
      | @cons v2 _ _ _ r3 r4 =>
        cases r4
        exact ⟨v, v', v2, rfl, dm.nx Z H1 _ _ _ (S.go.stp a1) (F.ag' a1) ((((S.ag a1 w1).setSh i r1).setSh j r2).setSh l r3) q1⟩
end
section
variable {P : Program} {w : World} {K : PySem.W.Frag} {mg : Str → Option Value} {base : Heap} {CA : Nat → Addr} {k : Nat} {f : Addr} {fd : FuncData} {ps : List Str} {m : Nat}
theorem DrawOk.le {dr wl cl : Addr} {cs : List Int} {n m : Nat} {H : Hp} (h : DrawOk dr wl cl cs n H) (l : m ≤ n) : DrawOk dr wl cl cs m H := by
  obtain ⟨ws, r, t, h1, h2, h3, h4, h5, h6, h7, h8, h9⟩ := h
  exact ⟨ws, r, t, h1, h2, h3, h4, h5, h6, h7, h8, by omega⟩
/-- fewer draws are left, or less is promised -/
def Fdown (F : FD) : FD := fun ds Q E n => F ds (fun d k => ∃ m, m ≤ k ∧ Q d m) (fun c fs k => ∃ m, m ≤ k ∧ E c fs m) n
theorem FnG.imp {F F' : FD} (hm : ps.length = m) (G : FnG P w K mg base k f fd ps (spD K CA m F)) (h : ∀ ds Q E n, F' ds Q E n → Fdown F ds Q E n) : FnG P w K mg base k f fd ps (spD K CA m F') :=
  ⟨fun vs H Q E q => q.1.trans hm.symm, fun A outer s H args us vs Q E hg hr he hb hv hs => by
    obtain ⟨hl, g, Z, ds, QD, ED, go, r, q, h1, h2⟩ := hs
    refine G.go A outer s H args us vs Q E hg hr he hb hv ⟨hl, g, Z, ds, _, _, go, r, h _ _ _ _ q, fun v H' d n a w r q => ?_, fun cls dd H' c fs n a w r q => ?_⟩
    · obtain ⟨m, le, q⟩ := q
      exact h1 v H' d m a (fun x e => (w x e).le le) r q
    · obtain ⟨m, le, q⟩ := q
      exact h2 cls dd H' c fs m a (fun x e => (w x e).le le) r q⟩
theorem Df.mk' {nm qual : Str} {st : Stmt} {F : FD} (T : Fun K nm qual st f fd) (G : FnG P w K mg base k f fd ps (spD K CA m F)) (hm : mg nm = some (.ref f)) (hl : ps.length = m)
    (h : ∀ (kV doc pm : Value) (an : Option Addr) (cdv ct : Value) (us : List Value), us.length = ps.length → bindArgs (PySem.W.fnOf nm qual (defArgs st) (defBody st) (defScope st) .none kV doc pm an cdv ct) ⟨us, []⟩ = pure (ps.zip us))
    (h' : ∀ (kV doc pm : Value) (an : Option Addr) (cdv ct : Value) (us : List Value), us.length = ps.length → bindArgs (PySem.W.fnOf nm qual (defArgs st) (defBody st) (defScope st) .none kV doc pm an cdv ct) ⟨[], ps.zip us⟩ = pure (ps.zip us)) : Df P w K mg base CA nm k ps F := by
  subst hl
  refine ⟨f, fd, G, hm, T.kp, T.binds h, fun s us hl => ?_⟩
  obtain ⟨c1, o1, k1, d1, p1, a1, v1, t1, s1, rfl, _, _⟩ := T.ex
  exact .of_eq (h' _ _ _ _ _ _ us hl)
end

def fNeg : D → (D → Prop) → Prop
  | .int i, Q => Q (.int (-i))
  | _, _ => False
section
variable {X : Cx} {K : PySem.W.Frag} {CA : Nat → Addr} {W : WX} {a : Expr} {pos : Pos} {ha : TE} {ta : TD}
theorem we_neg (h : WE X K CA W a ha ta) : WE X K CA W (.UnaryOp .USub a pos) (tUn (rU fun i => .int (-i)) ha) (dUn fNeg ta) :=
  ⟨pe_un un_neg h.pe, fun g Zc Z H σ ρ Q E Q' S dv dx t => h.sim g Zc Z H σ ρ _ E _ S (fun v H1 d n1 a1 w1 r1 q1 => by
    cases d with
    | int i => cases r1; exact ⟨i, rfl, (dv.ag a1).here (S.go.ag a1 w1) (.int _) q1⟩
    | _ => exact q1.elim) dx t⟩
end
/-! ### the draws' defs -/
/-- a draw from 0 to s - 1 -/
def fTake : FD := fun ds Q E n => ∃ (s : Int) (m : Nat), ds = [.draw, .int s] ∧ n = m + 1 ∧ 0 < s ∧ s < 1073741824 ∧ ∀ r : Int, 0 ≤ r → r < s → Q (.int r) m
def fPick : FD := fun ds Q E n => ∃ (xs : List D) (m : Nat), (ds = [.draw, .lst xs] ∨ ds = [.draw, .tup xs]) ∧ n = m + 1 ∧ xs ≠ [] ∧ xs.length < 1073741824 ∧ ∀ x, x ∈ xs → Q x m
def fMixed : FD := fun ds Q E n => ∃ (m : Nat), ds = [.draw] ∧ n = m + 1 ∧ ∀ r : Int, Q (.int r) m
def u_mixed : SD := dSeq (dPar 1 2 (dCons (dOp fAdd (dTurn 0) (dC (.int 1))) (dCons (dC (.int 0)) (dNil)))) (dSeq (dSetTurn 0 (dVar 1)) (dSeq (dFor (dSeqI (dLst (dCons (dC (.int 2147483629)) (dCons (dC (.int 2147483587)) (dCons (dC (.int 2147483579)) (dCons (dC (.int 2147483563)) (dNil))))))) (gdName 3) (dSeq (dAsg (dOp fAdd (dOp (fI CMul fun i j => i * j) (dC (.int 61441)) (dVar 1)) (dOp (fI CDiv fun i j => i / j) (dVar 3) (dC (.int 19)))) (gdName 4)) (dSeq (dFor (dCells 0) (gdName 5) (dAsg (dOp (fI (fun _ j => 0 < j) fun i j => i % j) (dCB fInt (dCons (dOp fAdd (dOp fAdd (dOp (fI CMul fun i j => i * j) (dVar 4) (dC (.int 48271))) (dVar 5)) (dVar 1)) (dNil))) (dVar 3)) (gdName 4))) (dAsg (dOp fAdd (dOp (fI CMul fun i j => i * j) (dVar 2) (dC (.int 2147483647))) (dOp (fI (fun _ j => 0 < j) fun i j => i % j) (dCB fInt (dCons (dOp (fI CPow fun i j => i ^ j.toNat) (dVar 4) (dC (.int 5))) (dNil))) (dVar 3))) (gdName 2))))) (dRet (dVar 2))))
def u_take : SD := dSeq (dIfS (dB (dOp (fEq false) (dRest 0) (dC (.int 0)))) (dSetRest 0 (dWide 0 (dCall 1 fMixed (dCons (dVar 0) (dNil))))) (dNext)) (dSeq (dAsg (dOp (fI (fun _ j => 0 < j) fun i j => i % j) (dCB fInt (dCons (dRest 0) (dNil))) (dVar 1)) (gdName 2)) (dSeq (dSetRest 0 (dOp (fI CDiv fun i j => i / j) (dRest 0) (dVar 1))) (dRet (dVar 2))))
def u_pick : SD := dRet (dOp fSub (dVar 1) (dCall 2 fTake (dCons (dVar 0) (dCons (dCB fLen (dCons (dVar 1) (dNil))) (dNil)))))
/-- the slots of _law_mixed -/
def slM (t f : Int) (p b c : Option D) : DE := [some (.sh .draw), some (.sh (.int t)), some (.sh (.int f)), p.map .sh, b.map .sh, c.map .sh]
theorem mixed_cells {p t f : Int} (hp : 0 < p) (hp2 : p < 4294967296) {QQ : DEnds} {n : Nat} : ∀ (cs : List Int) (b : Int) (c : Option D), b.natAbs < 2 ^ 64 → (∀ b' c', (b' : Int).natAbs < 2 ^ 64 → QQ.nx (slM t f (some (.int p)) (some (.int b')) c') n) →
    dForL (gdName 5) (dAsg (dOp (fI (fun _ j => 0 < j) fun i j => i % j) (dCB fInt (dCons (dOp fAdd (dOp fAdd (dOp (fI CMul fun i j => i * j) (dVar 4) (dC (.int 48271))) (dVar 5)) (dVar 1)) (dNil))) (dVar 3)) (gdName 4)) QQ (cs.map D.int) (slM t f (some (.int p)) (some (.int b)) c) n
  | [], b, c, hb, k => k b c hb
  | x :: cs, b, c, hb, k => by
    refine ⟨_, rfl, ⟨.inr ⟨by decide, by decide⟩, ?_⟩⟩
    refine ⟨_, rfl, ⟨_, rfl, ⟨_, rfl, ⟨hp, ?_⟩⟩⟩⟩
    refine mixed_cells hp hp2 cs ((b * 48271 + x + t) % p) (some (.int x)) ?_ k
    have h1 := Int.emod_nonneg (b * 48271 + x + t) (by omega : p ≠ 0)
    have h2 := Int.emod_lt_of_pos (b * 48271 + x + t) hp
    show ((b * 48271 + x + t) % p).natAbs < 2 ^ 64
    omega
theorem mixed_primes {t : Int} (h0 : 0 ≤ t) (h1 : t ≤ 1000000000) {QQ : DEnds} {n : Nat} : ∀ (qs : List Int) (f : Int) (p b c : Option D), (∀ x, x ∈ qs → 0 < x ∧ x < 4294967296) → (∀ f' p' b' c', QQ.nx (slM t f' p' b' c') n) →
    dForL (gdName 3) (dSeq (dAsg (dOp fAdd (dOp (fI CMul fun i j => i * j) (dC (.int 61441)) (dVar 1)) (dOp (fI CDiv fun i j => i / j) (dVar 3) (dC (.int 19)))) (gdName 4)) (dSeq (dFor (dCells 0) (gdName 5) (dAsg (dOp (fI (fun _ j => 0 < j) fun i j => i % j) (dCB fInt (dCons (dOp fAdd (dOp fAdd (dOp (fI CMul fun i j => i * j) (dVar 4) (dC (.int 48271))) (dVar 5)) (dVar 1)) (dNil))) (dVar 3)) (gdName 4))) (dAsg (dOp fAdd (dOp (fI CMul fun i j => i * j) (dVar 2) (dC (.int 2147483647))) (dOp (fI (fun _ j => 0 < j) fun i j => i % j) (dCB fInt (dCons (dOp (fI CPow fun i j => i ^ j.toNat) (dVar 4) (dC (.int 5))) (dNil))) (dVar 3))) (gdName 2)))) QQ (qs.map D.int) (slM t f p b c) n
  | [], f, p, b, c, _, k => k f p b c
  | q :: qs, f, p, b, c, hq, k => by
    obtain ⟨q0, q1⟩ := hq q (List.mem_cons_self ..)
    refine ⟨_, rfl, ⟨.inl ⟨by decide, by decide⟩, ⟨_, rfl, ⟨⟨by decide, by decide⟩, ?_⟩⟩⟩⟩
    refine ⟨rfl, fun cs hcs hl => ?_⟩
    refine mixed_cells q0 q1 cs _ _ ?_ fun b' c' hb' => ?_
    · have h2 := Int.ediv_nonneg (a := q) (b := 19) (by omega) (by decide)
      have h3 := Int.ediv_le_self (a := q) 19 (by omega)
      show (61441 * t + q / 19).natAbs < 2 ^ 64
      omega
    · refine ⟨_, rfl, ⟨.inr ⟨by decide, by decide⟩, ⟨_, rfl, ⟨⟨by decide, by decide, hb'⟩, ⟨_, rfl, ⟨q0, ?_⟩⟩⟩⟩⟩⟩
      exact mixed_primes h0 h1 qs _ _ _ _ (fun x hx => hq x (List.mem_cons_of_mem _ hx)) k
theorem mixed_ok : ∀ ds Q E n, fMixed ds Q E n → Fdown (bodyF 6 u_mixed) ds Q E n := by
  rintro ds Q E n ⟨m, rfl, rfl, k⟩
  refine ⟨rfl, fun t t0 tn => ⟨_, _, rfl, ⟨rfl, ⟨_, rfl, ⟨t + 1, m, rfl, rfl, by omega, by omega, ?_⟩⟩⟩⟩⟩
  refine ⟨by decide, ⟨_, rfl, ?_⟩⟩
  refine mixed_primes (t := t + 1) (by omega) (by omega) [2147483629, 2147483587, 2147483579, 2147483563] 0 none none none (by decide) fun f' p' b' c' => ?_
  exact ⟨_, rfl, m, Nat.le_refl _, k f'⟩
theorem take_ok : ∀ ds Q E n, fTake ds Q E n → Fdown (bodyF 3 u_take) ds Q E n := by
  rintro ds Q E n ⟨s, m, rfl, rfl, s0, s1, k⟩
  have rest : ∀ j : Nat, m ≤ j → dSeq (dAsg (dOp (fI (fun _ j => 0 < j) fun i j => i % j) (dCB fInt (dCons (dRest 0) (dNil))) (dVar 1)) (gdName 2)) (dSeq (dSetRest 0 (dOp (fI CDiv fun i j => i / j) (dRest 0) (dVar 1))) (dRet (dVar 2)))
      { nx := fun _ j => ∃ m, m ≤ j ∧ Q .non m, rt := fun d j => ∃ m, m ≤ j ∧ Q d m, ex := fun _ c fs j => ∃ m, m ≤ j ∧ E c fs m } [some (.sh .draw), some (.sh (.int s)), none] j := fun j hj => by
    refine ⟨rfl, fun r => ⟨_, rfl, ⟨s0, ?_⟩⟩⟩
    refine ⟨rfl, ⟨rfl, fun r2 => ⟨_, rfl, ⟨⟨s0, s1⟩, ⟨_, rfl, ?_⟩⟩⟩⟩⟩
    exact ⟨_, rfl, m, hj, k _ (Int.emod_nonneg _ (by omega)) (Int.emod_lt_of_pos _ s0)⟩
  refine ⟨rfl, fun r => ⟨.inl rfl, ⟨_, rfl, ?_⟩⟩⟩
  by_cases h : (r == 0) = true
  · have e : (if false = true then !(eqD (.int r) (.int 0)) else eqD (.int r) (.int 0)) = true := h
    rw [e]
    exact ⟨rfl, ⟨rfl, fun r => ⟨r, rfl, rest _ (Nat.le_succ m)⟩, ⟨_, rfl, rfl, m, rfl, rfl, fun r => ⟨r, rfl, rest _ (Nat.le_refl m)⟩⟩⟩⟩
  · have e : (if false = true then !(eqD (.int r) (.int 0)) else eqD (.int r) (.int 0)) = false := Bool.eq_false_iff.mpr h
    rw [e]
    exact rest _ (Nat.le_succ m)
theorem atI_ok {xs : List D} {r : Int} (h0 : 0 ≤ r) (h1 : r < (xs.length : Int)) : ∃ x, atI xs r = some x ∧ x ∈ xs := by
  have hl : r.toNat < xs.length := by omega
  refine ⟨xs[r.toNat], ?_, List.getElem_mem hl⟩
  unfold atI ixN
  simp only [show ¬ r < 0 by omega, if_false, h0, h1, if_true, and_self, Bool.and_self, decide_true]
  simp [List.getElem?_eq_getElem hl]
theorem pick_ok : ∀ ds Q E n, fPick ds Q E n → Fdown (bodyF 2 u_pick) ds Q E n := by
  rintro ds Q E n ⟨xs, m, hd, rfl, ne, hl, k⟩
  have hp : 0 < xs.length := List.length_pos_iff.mpr ne
  rcases hd with rfl | rfl
  · refine ⟨_, rfl, ⟨_, rfl, ⟨_, rfl, ⟨rfl, ⟨_, m, rfl, rfl, by omega, by omega, fun r h0 h1 => ?_⟩⟩⟩⟩⟩
    obtain ⟨x, e, hx⟩ := atI_ok h0 h1
    exact ⟨x, e, m, Nat.le_refl _, k x hx⟩
  · refine ⟨_, rfl, ⟨_, rfl, ⟨_, rfl, ⟨rfl, ⟨_, m, rfl, rfl, by omega, by omega, fun r h0 h1 => ?_⟩⟩⟩⟩⟩
    obtain ⟨x, e, hx⟩ := atI_ok h0 h1
    exact ⟨x, e, m, Nat.le_refl _, k x hx⟩
end WM
namespace WM
open PySem PySem.Spec PyProof.Rows L2

section
variable {X : Cx} {K : PySem.W.Frag} {CA : Nat → Addr} {W : WX} {e : Expr} {es : List Expr} {pos p : Pos} {t : TA} {x : Str} {k : Nat} {ps : List Str} {sp : Sp} {f : Addr} {fd : FuncData}
theorem pe_callG (G : FnG X.prog X.w X.K X.mg X.base k f fd ps sp) (hm : X.mg x = some (.ref f)) (hk : PySem.W.keepIn X.K (.ref f) = true) (hb : Binds X.K fd ps []) (hG : X.A.guards = some []) (hr : Room k X.A) (tk : Takes X W) (h : PA X (e :: es) t) (hg : Gl X x := by rfl)
    (hdb : (x == ("__debug__" : Str)) = false := by decide) (he : starEach (e :: es) X.env = (false, eval e X.env) :: starEach es X.env := by rfl) (hpl : (backTo pos (starEach es X.env)).any (·.1) = false := by rfl) :
    PE X (.Call (.Name x p) (e :: es) [] pos) (tCallS sp (L2.WE W) t) := by
  refine ⟨fun pins s σ H Q I hq => wpAny_Call_Name_kw (ld_glob I hg hm ?_ hdb)⟩
  refine PySem.W.callWith_K (h₀ := X.base) I.ok.mod.kin hk (thn (h.run pos pins s σ H _ I hq) fun us s1 ⟨vs, H1, I1, r, q⟩ => ⟨I1.kIn, wpAny_call (codeAny_mono (run_fnG G hG hr (fun hl => ?_) (passAt tk σ) I1 r q) fun r s' hq => ?_)⟩) he hpl
  · have := hb s1 us I1.kIn (by rw [List.append_nil]; exact hl)
    rw [List.append_nil] at this
    exact this
  · rcases r with e | fl
    · exact hq
    · rcases fl with _ | _ | _ | u <;> exact hq
end
/-! ### the beginning of the draws -/
def spBegun (K : PySem.W.Frag) (CA : Nat → Addr) : Sp := fun vs H Q _ => ∃ (a : Addr) (ns : List Int), vs = [.ref a] ∧ Rp K CA none [] H (.ref a) (.scr ns) ∧ ns.length ≤ 63 ∧
  ∀ dr wl cl cs H', H dr = none → H wl = none → H cl = none → Ag [] H H' → DrawOk dr wl cl cs 1000000000 H' → Q (.ref dr) H'
abbrev dAbs2 : TD := dCB fAbs (dCons (dVar 2) (dNil))
abbrev dBig : TD := dOp (fI CPow fun i j => i ^ j.toNat) (dC (.int 10)) (dC (.int 18))
def u_b1 : SD := dAsgO (dLc (dScr (dVar 0)) (gdName 2) (dB (dOp (fB fun i j => decide (i ≥ j)) dAbs2 dBig)) (dOp (fI (fun _ _ => True) fun i j => i - j) dAbs2 dBig) [2]) 1
def d_b2 : TD := dLc (dScr (dVar 0)) (gdName 2) dYes (dOp (fI (fun _ j => 0 < j) fun i j => i % j) (dCB fInt (dCons dAbs2 (dNil))) (dC (.int 2147483629))) [2]
section
variable {K : PySem.W.Frag} {CA : Nat → Addr}
theorem rp_ints {dr : Option Addr} {Z : List Addr} {H : Hp} : ∀ {ns : List Int} {vs : List V}, RpAll K CA dr Z H vs (ns.map D.int) → vs = ns.map V.int
  | [], _, h => by cases h; rfl
  | n :: ns, _, h => by
    cases h with
    | cons h1 h2 =>
      cases h1
      rw [rp_ints h2]
      rfl
theorem b1_loop {ns : List Int} {o : Option Sl} {kk : List D → NP} {n : Nat} : ∀ (xs acc : List Int), acc.length + xs.length ≤ 63 → (∀ ws : List Int, ws.length ≤ 63 → kk (ws.map D.int) n) →
    dLcL (gdName 2) (dB (dOp (fB fun i j => decide (i ≥ j)) dAbs2 dBig)) (dOp (fI (fun _ _ => True) fun i j => i - j) dAbs2 dBig) [some (.sh (.scr ns)), o, none] kk (acc.map D.int) (xs.map D.int) n
  | [], acc, hl, k => k acc (by simpa using hl)
  | x :: xs, acc, hl, k => by
    simp only [List.length_cons] at hl
    refine ⟨_, rfl, ⟨⟨by decide, by decide, by decide⟩, ⟨_, rfl, ?_⟩⟩⟩
    by_cases h : decide ((if x < 0 then -x else x) ≥ 10 ^ (18 : Int).toNat) = true
    · show if decide ((if x < 0 then -x else x) ≥ 10 ^ (18 : Int).toNat) = true then _ else _
      rw [if_pos h]
      refine ⟨_, rfl, ⟨⟨by decide, by decide, by decide⟩, ⟨trivial, ⟨?_, ?_⟩⟩⟩⟩
      · rw [List.length_map]; exact Nat.lt_of_le_of_lt (show acc.length ≤ 63 by omega) (by decide)
      · have := b1_loop (ns := ns) (o := o) xs (acc ++ [(if x < 0 then -x else x) - 10 ^ (18 : Int).toNat]) (by simp; omega) k
        rw [List.map_append] at this
        exact this
    · show if decide ((if x < 0 then -x else x) ≥ 10 ^ (18 : Int).toNat) = true then _ else _
      rw [if_neg h]
      exact b1_loop xs acc (by omega) k
theorem b2_loop {ns : List Int} {o : Option Sl} {kk : List D → NP} {n : Nat} : ∀ (xs acc : List Int), acc.length + xs.length ≤ 63 → (∀ x, x ∈ acc → 0 ≤ x ∧ x < 2147483629) → (∀ ws : List Int, (∀ x, x ∈ ws → 0 ≤ x ∧ x < 2147483629) → ws.length ≤ 63 → kk (ws.map D.int) n) →
    dLcL (gdName 2) dYes (dOp (fI (fun _ j => 0 < j) fun i j => i % j) (dCB fInt (dCons dAbs2 (dNil))) (dC (.int 2147483629))) [some (.sh (.scr ns)), o, none] kk (acc.map D.int) (xs.map D.int) n
  | [], acc, hl, ha, k => k acc ha (by simpa using hl)
  | x :: xs, acc, hl, ha, k => by
    simp only [List.length_cons] at hl
    refine ⟨_, rfl, ⟨(show (0 : Int) < 2147483629 by decide), ⟨?_, ?_⟩⟩⟩
    · rw [List.length_map]; exact Nat.lt_of_le_of_lt (show acc.length ≤ 63 by omega) (by decide)
    · have := b2_loop (ns := ns) (o := o) xs (acc ++ [(if x < 0 then -x else x) % 2147483629]) (by simp; omega) (fun y hy => by
        rcases List.mem_append.mp hy with h | h
        · exact ha y h
        · rw [List.mem_singleton] at h
          rw [h]
          exact ⟨Int.emod_nonneg _ (by decide), Int.emod_lt_of_pos _ (by decide)⟩) k
      rw [List.map_append] at this
      exact this
theorem merge_dr {wl cl : Addr} : mergeK ([] : List (Key × V)) (drL wl cl 0 0) = drL wl cl 0 0 := by
  simp [mergeK, putK, drL, s_wc, s_wr, s_wt, s_cr, s_ct, s_rt]
end
/-- the j-th value of the dict that is returned -/
def dictVal (st : Stmt) (j : Nat) : Expr := match st with
  | .Return (some (.Dict _ vs _)) _ => vs.getD j (.Constant .none 0 ⟨0, 0, 0, 0⟩)
  | _ => .Constant .none 0 ⟨0, 0, 0, 0⟩
abbrev trB (hc : TE) : List (TE × TE) := [(L2.tC (.str "wide"), L2.tVar 1), (L2.tC (.str "cells"), hc), (L2.tC (.str "rest"), L2.tC (.int 0)), (L2.tC (.str "turn"), L2.tC (.int 0))]
section
variable {P : Program} {w : World} {K : PySem.W.Frag} {mg : Str → Option Value} {base : Heap} {CA : Nat → Addr}
theorem okBegun {nm qual : Str} {st : Stmt} {f : Addr} {fd : FuncData} {N : List Str} {k : Nat} (F : Fun K nm qual st f fd) (S : FnScope N ["_law_script"] (defScope st)) (hn : N.length = 3)
    (hb : ∀ (cd : Value) (A : Around) (outer : List Env) (s : Shared) (H : Hp) (E : XK), A.guards = some [] → Room k (A.deeper (envOfC qual (defScope st) s.heap.objs.size f cd)) →
      Takes (cxD P w K mg base N qual st f cd A outer s H E) (wxD E) → ∃ t1 hc, PSs (cxD P w K mg base N qual st f cd A outer s H E) (defBody st) (L2.tSeq t1 (tRet (tDisp (trB hc)))) ∧ SimS K CA (wxD E) t1 u_b1 ∧ SimF K CA (wxD E) hc d_b2) : FnG P w K mg base (k + 1) f fd ["_law_script"] (spBegun K CA) := by
  refine FnG.mk' F S (fun vs H Q E h => by obtain ⟨a, ns, rfl, _⟩ := h; rfl) fun cd A outer s H vs Q E hg hr h => ?_
  obtain ⟨a, ns, rfl, rp, hl, fin⟩ := h
  obtain ⟨t1, hc, pe, s1, s2⟩ := hb cd A outer s H E hg hr (takes_of rfl rfl rfl rfl)
  refine ⟨_, pe, ?_⟩
  have go : GO ⟨none, 0, 0, [], 0, 0⟩ [] [] H := ⟨fun a e => (nomatch e), fun b hb => (nomatch hb), fun b hb => (nomatch hb), fun b hb => (nomatch hb)⟩
  have so := so_start (K := K) (CA := CA) (vs := [.ref a]) (ds := [.scr ns]) N (by rw [hn]; show 1 ≤ 3; decide) go (.cons rp .nil)
  rw [hn] at so
  refine s1 ⟨none, 0, 0, [], 0, 0⟩ [] H [] H _ _ { nx := fun ρ' n => ∃ ws : List Int, ws.length ≤ 63 ∧ ρ' = [some (.sh (.scr ns)), some (.ow (.lst (ws.map D.int))), none], rt := fun _ _ => False } _ ⟨Ag.refl, fun b h => .inl h⟩ so
    ⟨fun Z' H' σ ρ n _ fr S' q => ?_, fun _ _ _ _ _ _ _ z => z.elim, fun _ _ _ _ _ _ _ _ z => z.elim, fun _ _ _ _ _ _ _ _ z => z.elim, fun _ _ _ _ _ _ _ _ _ _ _ _ _ z => z.elim⟩ ?_
  · obtain ⟨ws, hws, rfl⟩ := q
    obtain ⟨wl, e1, hz, _, ow⟩ := own_at (i := 1) S' rfl
    cases ow with
    | @lst xs _ el r =>
      have ex := rp_ints r
      subst ex
      intro p hp
      have S1 := S'.growNew (u := .dK []) hp
      have wp : wl ≠ p := ne_of_none el hp
      refine ⟨_, e1, ?_⟩
      refine s2 _ [] (p :: Z') _ σ _ (fun d _ => ∃ cs : List Int, (∀ x, x ∈ cs → 0 ≤ x ∧ x < 2147483629) ∧ cs.length ≤ 63 ∧ d = .lst (cs.map D.int)) (fun _ _ _ => False) _ S1 (fun cl H2 d n2 hcl a2 _ oc q => ?_) (fun _ _ _ _ _ _ _ _ _ z => z.elim) ?_
      · obtain ⟨cs, hcs, hlc, rfl⟩ := q
        cases oc with
        | @lst ys _ ec rc =>
          have ey := rp_ints rc
          subst ey
          have hp2 : H2 p = some (.dK []) := a2 p _ (by intro z; cases z) upd_same
          have cp : cl ≠ p := fun z => by rw [z, upd_same] at hcl; cases hcl
          have hcl' : H' cl = none := by rw [upd_ne cp] at hcl; exact hcl
          have bk : ∀ b, H' b = none → H b = none := fun b hb => by
            cases q : H b with
            | none => rfl
            | some o =>
              have := fr.ag b o (by intro z; cases z) q
              rw [hb] at this; cases this
          refine ⟨hp2, drL wl cl 0 0, rfl, (by show 4 ≤ 15; decide), ?_⟩
          rw [merge_dr]
          have hwl : H2 wl = some (.lst (ws.map V.int)) := a2 wl _ (by intro z; cases z) (by rw [upd_ne wp]; exact el)
          refine fin p wl cl cs _ (bk p hp) ((fr.nz wl hz).resolve_left (by intro z; cases z)) (bk cl hcl') ((fr.ag.trans ((Ag.new hp).trans a2)).mut (bk p hp)) ⟨ws, 0, 0, upd_same, by rw [upd_ne wp]; exact hwl, by rw [upd_ne cp]; exact ec, fun z => ?_, hcs, hws, hlc, by decide, by decide⟩
          rw [z, hcl'] at el; cases el
      · refine ⟨_, rfl, ns, rfl, ?_⟩
        exact b2_loop ns [] (by simpa using hl) (fun x hx => (nomatch hx)) fun cs h1 h2 => ⟨cs, h1, h2, rfl⟩
  · refine ⟨_, rfl, ns, rfl, ?_⟩
    exact b1_loop ns [] (by simpa using hl) fun ws h => ⟨ws, h, rfl⟩

/-! ### the law -/
def spLawD (K : PySem.W.Frag) (CA : Nat → Addr) : Sp := fun vs H Q _ => ∃ (a : Addr) (ns : List Int), vs = [.ref a] ∧ Rp K CA none [] H (.ref a) (.scr ns) ∧ ns.length ≤ 63 ∧ ∀ H', Q (.bl true) H'
def LawD (n : Nat) (u : SD) : Prop := ∀ ns : List Int, ns.length ≤ 63 → u { nx := fun _ _ => False, rt := fun d _ => d = .bl true } (some (.sh (.scr ns)) :: some (.sh .draw) :: List.replicate (n - 2) none) 1000000000
theorem okLaw {nm qual : Str} {st : Stmt} {f : Addr} {fd : FuncData} {N : List Str} {k n : Nat} {u : SD} (F : Fun K nm qual st f fd) (S : FnScope N ["_law_script"] (defScope st)) (hn : N.length = n) (hn2 : 2 ≤ n) (hu : LawD n u)
    (hb : ∀ (cd : Value) (A : Around) (outer : List Env) (s : Shared) (H : Hp) (E : XK), A.guards = some [] → Room k (A.deeper (envOfC qual (defScope st) s.heap.objs.size f cd)) →
      Takes (cxD P w K mg base N qual st f cd A outer s H E) (wxD E) → ∃ st0 rest tS, defBody st = st0 :: rest ∧ PS (cxD P w K mg base N qual st f cd A outer s H E) st0 (L2.tAsg (tCallS (spBegun K CA) (L2.WE (wxD E)) (L2.tCons (L2.tVar 0) L2.tNil)) (L2.gName 1)) ∧
        WSs (cxD P w K mg base N qual st f cd A outer s H E) K CA (wxD E) rest tS u) : FnG P w K mg base (k + 1) f fd ["_law_script"] (spLawD K CA) := by
  subst hn
  refine FnG.mk' F S (fun vs H Q E h => by obtain ⟨a, ns, rfl, _⟩ := h; rfl) fun cd A outer s H vs Q E hg hr h => ?_
  obtain ⟨a, ns, rfl, rp, hl, fin⟩ := h
  obtain ⟨st0, rest, tS, eb, p0, ws⟩ := hb cd A outer s H E hg hr (takes_of rfl rfl rfl rfl)
  refine ⟨_, by rw [eb]; exact pss_cons p0 ws.pe, ?_⟩
  refine ⟨.ref a, rfl, a, ns, rfl, rp, hl, fun dr wl cl cs H1 f1 f2 f3 ag ok => ?_⟩
  have rp1 : Rp K CA (some dr) [dr, wl, cl] H1 (.ref a) (.scr ns) := by
    cases rp with
    | scr _ e =>
      refine .scr (fun z => ?_) (ag a _ (by intro z; cases z) e)
      simp only [List.mem_cons, List.not_mem_nil, or_false] at z
      rcases z with rfl | rfl | rfl
      · rw [f1] at e; cases e
      · rw [f2] at e; cases e
      · rw [f3] at e; cases e
    | kscr e => exact .kscr e
  have go : GO ⟨some dr, wl, cl, cs, 1000000000, 0⟩ [dr, wl, cl] [dr, wl, cl] H1 := by
    have wd : Gd.Wd ⟨some dr, wl, cl, cs, 1000000000, 0⟩ H1 := fun b e => by cases e; exact ok
    exact ⟨wd, fun b hb => hb, fun b hb => hb, fun b hb => Gd.zin _ wd b hb⟩
  have so : SO K CA ⟨some dr, wl, cl, cs, 1000000000, 0⟩ [dr, wl, cl] [dr, wl, cl] H1 ((start N [.ref a]).set 1 (some (.ref dr))) (some (.sh (.scr ns)) :: some (.sh .draw) :: List.replicate (N.length - 2) none) := by
    have base0 := so_start (vs := [.ref a]) (ds := [.scr ns]) N (by simp; omega) go (.cons rp1 .nil)
    have := base0.setSh 1 (v := .ref dr) (d := .draw) (.draw rfl)
    have e : (startD N.length [.scr ns]).set 1 (some (.sh .draw)) = some (.sh (.scr ns)) :: some (.sh .draw) :: List.replicate (N.length - 2) none := by
      obtain ⟨m, hm⟩ : ∃ m, N.length = m + 2 := ⟨N.length - 2, by omega⟩
      rw [hm]
      rfl
    rw [e] at this
    exact this
  refine ws.sim _ [dr, wl, cl] H1 [dr, wl, cl] H1 _ _ { nx := fun _ _ => False, rt := fun d _ => d = .bl true } _ ⟨Ag.refl, fun b h => .inl h⟩ so
    ⟨fun _ _ _ _ _ _ _ _ z => z.elim, fun v H2 d n _ _ r z => ?_, fun _ _ _ _ _ _ _ _ z => z.elim, fun _ _ _ _ _ _ _ _ z => z.elim, fun _ _ _ _ _ _ _ _ _ _ _ _ _ z => z.elim⟩ (hu ns hl)
  have z' : d = .bl true := z
  subst z'
  cases r
  exact fin H2
end
/-! ### the end -/
/-- the script's abstract heap -/
theorem law_end {P : Program} {w : World} {K : PySem.W.Frag} {CA : Nat → Addr} {mg mb : Str → Option Value} {k : Nat} {fa a : Addr} {fd : FuncData} {sh : Shared} {vs : List Value} {ns : List Int} (kin : K.In sh.heap) (gl : sh.heap.Ns mainGlobals mg) (bl : sh.heap.Ns builtinsNs mb)
    (blt : ∀ x : Str, x ≠ "__name__" → mb x = bootBuiltins x) (nl : sh.heap.NoLimit) (gens : sh.gens = #[]) (ha : sh.heap.get? a = some { cls := .type "list", data := .seq vs.toArray }) (hi : IntsAre vs ns) (hl : ns.length ≤ 63) (hr : Room k callerA)
    (G : ∀ base : Heap, K.In base → base.Ns mainGlobals mg → FnG P w K mg base k fa fd ["_law_script"] (spLawD K CA)) (bind : ∀ (s : Shared) (u : Value), BindsTo s fd ⟨[u], []⟩ [("_law_script", u)]) :
    codeAny (model P w) callerA (.call (.ref fa) ⟨[.ref a], []⟩) (fun r s' => r = .ok (.ret (.bool true)) ∧ OldK sh.heap s'.heap ∧ s'.os = sh.os ∧ AllBare s'.gens) sh := by
  have rv := vals_ints hi
  have hv := hi.length
  suffices main : ∀ H : Hp, (∀ b, H b = none ∨ (b = a ∧ ∃ o xs, H b = some (.frz o (.lst xs)))) → Rp K CA none [] H (.ref a) (.scr ns) → HOk P w H sh.heap → (H a ≠ none → K.lookup a = none) →
      codeAny (model P w) callerA (.call (.ref fa) ⟨[.ref a], []⟩) (fun r s' => r = .ok (.ret (.bool true)) ∧ OldK sh.heap s'.heap ∧ s'.os = sh.os ∧ AllBare s'.gens) sh by
    cases hk : K.lookup a with
    | some o =>
      have e := kin a o hk
      rw [ha] at e
      cases e
      refine main (fun _ => none) (fun _ => .inl rfl) (.kscr (.inr ⟨_, vs.toArray, _, hk, rfl, rfl, rfl, ?_, by simpa using rv⟩)) (fun b u z => ?_) fun z => absurd rfl z
      · rw [List.size_toArray, hv]
        exact Nat.le_trans hl (by decide)
      · cases (show (none : Option HO) = some u from z)
    | none =>
      refine main (fun b => if b = a then some (.frz { cls := .type "list", data := .seq vs.toArray } (.lst (ns.map V.int))) else none) (fun b => ?_) (.scr (by intro z; cases z) (if_pos rfl)) (fun b u z => ?_) fun _ => hk
      · by_cases h : b = a
        · exact .inr ⟨h, _, _, if_pos h⟩
        · exact .inl (if_neg h)
      · by_cases h : b = a
        · cases (if_pos h).symm.trans z
          subst h
          exact ⟨ha, by rw [List.length_map]; exact Nat.le_trans hl (by decide), vs, _, rv, ha⟩
        · cases (if_neg h).symm.trans z
  intro H only rp hok hK
  have offA : ∀ {b : Addr} {o : Obj}, sh.heap.get? b = some o → (b = a → H a = none) → (hidT sh.heap H).get? b = some o := fun {b o} e n => hidT_get e (by
    rcases only b with h | ⟨h, _⟩
    · exact h
    · subst h; exact n rfl)
  have noDict : ∀ {b : Addr} {o : Obj} {es : Array DictEntry} {ep : Nat}, sh.heap.get? b = some o → o.data = .dict es ep → b = a → H a = none := fun {b o es ep} e d z => by
    subst z
    rw [ha] at e
    cases e
    cases (show Data.seq vs.toArray _ = Data.dict es ep from d)
  have ns : ∀ {b : Addr} {m : Str → Option Value}, sh.heap.Ns b m → (hidT sh.heap H).Ns b m := fun {b m} ⟨o, es, ep, e, d, r⟩ => ⟨o, es, ep, offA e (noDict e d), d, r⟩
  have kb : K.In (hidT sh.heap H) := fun b o e => offA (kin b o e) fun z => by
    subst z
    by_cases h : H b = none
    · exact h
    · rw [hK h] at e; cases e
  have env : Env0 P w K mg (hidT sh.heap H) callerA [] sh H := ⟨rfl, ⟨kb, ns gl, ⟨mb, ns bl, blt⟩, nl.imp fun mc h => ⟨ns h.1, h.2⟩⟩, fun b o e => of_hidT e, Nat.le_of_eq (hidT_size _ _), trivial, fun b hb => absurd hb List.not_mem_nil, hok, .of_eq gens⟩
  refine codeAny_mono ((G _ kb (ns gl)).go callerA [] sh H ⟨[.ref a], []⟩ [.ref a] [.ref a] (fun v _ => v = .bl true) (fun _ _ _ => False) rfl hr env (bind sh (.ref a)) (.cons rfl .nil) ⟨a, _, rfl, rp, hl, fun _ => rfl⟩) fun r s' h => ?_
  rcases r with e | fl
  · obtain ⟨_, _, _, _, _, _, _, _, _, _, _, _, z⟩ := h
    exact z.elim
  · rcases fl with _ | _ | _ | u
    · exact False.elim h
    · exact False.elim h
    · exact False.elim h
    · obtain ⟨v, H2, os, bare, un, hok2, r2, q⟩ := h
      obtain rfl : v = .bl true := q
      obtain rfl : u = Value.bool true := r2
      refine ⟨rfl, OldK.of_keep fun b o e => ?_, os, bare⟩
      rcases only b with z | ⟨_, ob, xs, z⟩
      · exact un.keep b o e z (fun y => absurd y List.not_mem_nil) (by simp)
      · obtain ⟨e1, _⟩ := hok b _ z
        obtain ⟨e2, _⟩ := hok2 b _ (un.frzs b ob _ z)
        rw [e] at e1
        cases e1
        exact e2
theorem walkG {l : PySem.W.OpenLaw} {k : Nat} {q : Program} {loose : List Str} {XP : (Str → Option Value) → Heap → Prop} {YP : World → Heap → Prop} {d : DefRec} {K : Params → PySem.W.Frag} {CA : World → Nat → Addr} (hn : l.most = some 63) (hdf : d.params.defaults = []) (hr : Room k callerA)
    (hY : ∀ (w : World) (h : Heap), YP w h → (K w.params).In h)
    (F : ∀ (w : World) (mg : Str → Option Value) (fa : Addr) (h : Heap), (K w.params).In h → h.Ns mainGlobals mg → mg d.name = some (.ref fa) → ∃ fd : FuncData, (∀ (s : Shared) (u : Value), BindsTo s fd ⟨[u], []⟩ [("_law_script", u)]) ∧
      ∀ base : Heap, (K w.params).In base → base.Ns mainGlobals mg → FnG l.prog w (K w.params) mg base k fa fd ["_law_script"] (spLawD (K w.params) (CA w))) : PySem.W.WalkO q loose XP YP l.row.toRowW d [] (fun f vs => PySem.call f vs) := by
  refine Att.attach_call hn hdf fun w s0 s1 mg mb fa o pm cd doc a vs ns G Y _ _ _ hm ha hi hl gens => ?_
  obtain ⟨fd, bd, G1⟩ := F w mg fa _ (hY w _ Y) G.T.g hm
  exact law_end (hY w _ Y) G.T.g G.T.b G.T.builtins G.T.nolimit gens ha hi hl hr G1 bd
end WM
namespace WM
open PySem PySem.Spec PyProof.Rows L2
section
variable {i : Int} {b : Bool} {x : Str} {ds : List D} {kvs : List (Key × D)}
theorem isi_ii : fIsi "int" (.int i) = some true := by show kitB "int" "int" = _; decide +kernel
theorem isi_ib : fIsi "bool" (.int i) = some false := by show kitB "int" "bool" = _; decide +kernel
theorem isi_is : fIsi "str" (.int i) = some false := by show kitB "int" "str" = _; decide +kernel
theorem isi_it : fIsi "tuple" (.int i) = some false := by show kitB "int" "tuple" = _; decide +kernel
theorem isi_il : fIsi "list" (.int i) = some false := by show kitB "int" "list" = _; decide +kernel
theorem isi_bi : fIsi "int" (.bl b) = some true := by show kitB "bool" "int" = _; decide +kernel
theorem isi_bb : fIsi "bool" (.bl b) = some true := by show kitB "bool" "bool" = _; decide +kernel
theorem isi_bs : fIsi "str" (.bl b) = some false := by show kitB "bool" "str" = _; decide +kernel
theorem isi_bt : fIsi "tuple" (.bl b) = some false := by show kitB "bool" "tuple" = _; decide +kernel
theorem isi_blst : fIsi "list" (.bl b) = some false := by show kitB "bool" "list" = _; decide +kernel
theorem isi_ss : fIsi "str" (.str x) = some true := by show kitB "str" "str" = _; decide +kernel
theorem isi_si : fIsi "int" (.str x) = some false := by show kitB "str" "int" = _; decide +kernel
theorem isi_sb : fIsi "bool" (.str x) = some false := by show kitB "str" "bool" = _; decide +kernel
theorem isi_st : fIsi "tuple" (.str x) = some false := by show kitB "str" "tuple" = _; decide +kernel
theorem isi_sl : fIsi "list" (.str x) = some false := by show kitB "str" "list" = _; decide +kernel
theorem isi_tt : fIsi "tuple" (.tup ds) = some true := by show kitB "tuple" "tuple" = _; decide +kernel
theorem isi_ti : fIsi "int" (.tup ds) = some false := by show kitB "tuple" "int" = _; decide +kernel
theorem isi_tb : fIsi "bool" (.tup ds) = some false := by show kitB "tuple" "bool" = _; decide +kernel
theorem isi_ts : fIsi "str" (.tup ds) = some false := by show kitB "tuple" "str" = _; decide +kernel
theorem isi_tl : fIsi "list" (.tup ds) = some false := by show kitB "tuple" "list" = _; decide +kernel
theorem isi_lt : fIsi "tuple" (.lst ds) = some false := by show kitB "list" "tuple" = _; decide +kernel
theorem isi_li : fIsi "int" (.lst ds) = some false := by show kitB "list" "int" = _; decide +kernel
theorem isi_lb : fIsi "bool" (.lst ds) = some false := by show kitB "list" "bool" = _; decide +kernel
theorem isi_ls : fIsi "str" (.lst ds) = some false := by show kitB "list" "str" = _; decide +kernel
theorem isi_ll : fIsi "list" (.lst ds) = some true := by show kitB "list" "list" = _; decide +kernel
theorem isi_ni : fIsi "int" .non = some false := by show kitB "NoneType" "int" = _; decide +kernel
theorem isi_nb : fIsi "bool" .non = some false := by show kitB "NoneType" "bool" = _; decide +kernel
theorem isi_ns : fIsi "str" .non = some false := by show kitB "NoneType" "str" = _; decide +kernel
theorem isi_nt : fIsi "tuple" .non = some false := by show kitB "NoneType" "tuple" = _; decide +kernel
theorem isi_nl : fIsi "list" .non = some false := by show kitB "NoneType" "list" = _; decide +kernel
end
theorem down_self {Q : D → NP} {d : D} {n : Nat} (h : Q d n) : ∃ m, m ≤ n ∧ Q d m := ⟨n, Nat.le_refl n, h⟩
theorem le_line {n : Nat} (h : n ≤ 1000) : n ≤ sizeLine := Nat.le_trans h (by decide)
end WM
namespace W_whilemerged_k33_wrong_stands
open PySem PySem.Spec PyProof.Rows L2 WM
def top (i : Nat) : Stmt := PySem.Challenge.pw_whilemerged_k33_wrong_stands.main.body.getD i (.Pass ⟨0, 0, 0, 0⟩)
abbrev s_is_number : Stmt := top 4
abbrev s_is_one_of : Stmt := top 6
abbrev s_is_reader : Stmt := top 7
abbrev s_is_job : Stmt := top 8
abbrev s_is_stand : Stmt := top 9
abbrev s_reads_wrong : Stmt := top 11
abbrev s_is_wrong : Stmt := top 10
abbrev s__law_begun : Stmt := top 13
abbrev s__law_mixed : Stmt := top 14
abbrev s__law_take : Stmt := top 15
abbrev s__law_pick : Stmt := top 16
abbrev s__law_scene_of : Stmt := top 17
abbrev s__law_reads_wrong : Stmt := top 18
abbrev s_law : Stmt := top 19
structure Txt (mg : Str → Option Value) : Prop where
  z_isinstance : mg "isinstance" = none
  z_int : mg "int" = none
  z_bool : mg "bool" = none
  z_tuple : mg "tuple" = none
  z_len : mg "len" = none
  z_str : mg "str" = none
  z_abs : mg "abs" = none
  z_list : mg "list" = none
  z_range : mg "range" = none
  z_min : mg "min" = none
  z_repr : mg "repr" = none
def u_is_number : SD := dRet (dAndV (dCB fIsI (dCons (dVar 0) (dCons (dC (.ty "int")) (dNil)))) (dNotV (dCB fIsI (dCons (dVar 0) (dCons (dC (.ty "bool")) (dNil))))))
abbrev F_is_number : FD := bodyF 1 u_is_number

theorem ite_no {b : Bool} {A B : Prop} (h : b = false) (k : B) : if b = true then A else B := by rw [if_neg (by rw [h]; decide)]; exact k
theorem ite_yes {b : Bool} {A B : Prop} (h : b = true) (k : A) : if b = true then A else B := by rw [if_pos h]; exact k
def fNum : FD := fun ds Q E n => ∃ i, ds = [.int i] ∧ Q (.bl true) n
theorem num_ok : ∀ ds Q E n, fNum ds Q E n → Fdown F_is_number ds Q E n := by
  rintro ds Q E n ⟨i, rfl, q⟩
  exact ⟨_, rfl, ⟨_, isi_ii, ⟨_, rfl, ⟨_, rfl, ⟨_, isi_ib, ⟨_, rfl, n, Nat.le_refl n, q⟩⟩⟩⟩⟩⟩
theorem eqD_int {i j : Int} : eqD (.int i) (.int j) = (i == j) := by simp only [eqD]
theorem any_ints (i : Int) : ∀ xs : List Int, ((xs.map D.int).any fun e => eqD e (.int i)) = xs.any fun e => e == i
  | [] => rfl
  | x :: xs => by rw [List.map_cons, List.any_cons, List.any_cons, eqD_int, any_ints i xs]
theorem all_flat : ∀ xs : List Int, (xs.map D.int).all flatD = true
  | [] => rfl
  | x :: xs => by rw [List.map_cons, List.all_cons, all_flat xs]; rfl
def fOne : FD := fun ds Q E n => ∃ (i : Int) (xs : List Int), ds = [.int i, .tup (xs.map D.int)] ∧ Q (.bl (xs.any fun e => e == i)) n
def u_is_one_of : SD := dRet (dAndV (dCall 1 fNum (dCons (dVar 0) (dNil))) (dOp (fIn false) (dVar 0) (dVar 1)))
abbrev F_is_one_of : FD := bodyF 2 u_is_one_of

theorem one_ok : ∀ ds Q E n, fOne ds Q E n → Fdown F_is_one_of ds Q E n := by
  rintro ds Q E n ⟨i, xs, rfl, q⟩
  rw [← any_ints] at q
  exact ⟨_, rfl, ⟨rfl, i, rfl, ⟨_, rfl, ⟨_, rfl, ⟨_, rfl, ⟨rfl, all_flat xs, n, Nat.le_refl n, q⟩⟩⟩⟩⟩⟩
/-- a reader -/
def Rdr (w : Str) (l : Int) (nt : Bool) : Prop := (w = "above" ∨ w = "later" ∨ w = "sits") ∧ (l = 1 ∨ l = 2) ∧ (nt = true → w = "above" ∧ l = 2)
abbrev dR (w : Str) (l : Int) (nt : Bool) : D := .tup [.str w, .int l, .bl nt]
def fReader : FD := fun ds Q E n => ∃ w l nt, ds = [dR w l nt] ∧ Rdr w l nt ∧ Q (.bl true) n
def u_is_reader : SD := dSeq (dIfS (dOr (dNot (dB (dCB fIsI (dCons (dVar 0) (dCons (dC (.ty "tuple")) (dNil)))))) (dOr (dB (dOp (fEq true) (dCB fLen (dCons (dVar 0) (dNil))) (dC (.int 3)))) (dNot (dB (dCB fIsI (dCons (dOp fSub (dVar 0) (dC (.int 0))) (dCons (dC (.ty "str")) (dNil)))))))) (dRet (dC (.bl false))) (dNext)) (dSeq (dAsg (dVar 0) (gdTup 3 (gdCons (gdName 1) (gdCons (gdName 2) (gdCons (gdName 3) (gdNil)))))) (dSeq (dIfS (dOr (dB (dOp (fIn true) (dVar 1) (dTup (dCons (dC (.str "above")) (dCons (dC (.str "later")) (dCons (dC (.str "sits")) (dNil))))))) (dOr (dNot (dB (dCall 2 fOne (dCons (dVar 2) (dCons (dTup (dCons (dC (.int 1)) (dCons (dC (.int 2)) (dNil)))) (dNil)))))) (dNot (dB (dCB fIsI (dCons (dVar 3) (dCons (dC (.ty "bool")) (dNil)))))))) (dRet (dC (.bl false))) (dNext)) (dRet (dOrV (dNotV (dVar 3)) (dAndV (dOp (fEq false) (dVar 1) (dC (.str "above"))) (dOp (fEq false) (dVar 2) (dC (.int 2))))))))
abbrev F_is_reader : FD := bodyF 4 u_is_reader

theorem reader_ok : ∀ ds Q E n, fReader ds Q E n → Fdown F_is_reader ds Q E n := by
  rintro ds Q E n ⟨w, l, nt, rfl, ⟨hw, hl, hn⟩, q⟩
  have w1 : (!([D.str "above", .str "later", .str "sits"].any fun e => eqD e (.str w))) = false := by rcases hw with rfl | rfl | rfl <;> decide +kernel
  have l1 : ([1, 2] : List Int).any (fun e => e == l) = true := by rcases hl with rfl | rfl <;> decide
  refine ⟨_, rfl, ⟨_, isi_tt, ⟨_, rfl, ⟨_, rfl, ⟨.inl rfl, ⟨_, rfl, ⟨_, rfl, ⟨_, rfl, ⟨_, isi_ss, ⟨_, rfl, ?_⟩⟩⟩⟩⟩⟩⟩⟩⟩⟩
  refine ⟨_, rfl, ⟨_, rfl, rfl, ⟨_, _, rfl, ⟨_, _, rfl, ⟨_, _, rfl, ⟨rfl, ?_⟩⟩⟩⟩⟩⟩
  refine ⟨_, rfl, ⟨by decide, ⟨rfl, rfl, ⟨_, rfl, ite_no w1 ?_⟩⟩⟩⟩
  refine ⟨_, rfl, ⟨by decide, ⟨rfl, l, [1, 2], rfl, ⟨_, rfl, ?_⟩⟩⟩⟩
  rw [l1]
  refine ⟨_, rfl, ⟨_, isi_bb, ⟨_, rfl, ?_⟩⟩⟩
  refine ⟨_, rfl, ⟨_, rfl, ?_⟩⟩
  cases nt with
  | false => exact ⟨_, rfl, ⟨n, Nat.le_refl n, q⟩⟩
  | true =>
    obtain ⟨rfl, rfl⟩ := hn rfl
    refine ⟨_, rfl, ?_⟩
    refine ⟨_, rfl, ⟨.inl rfl, ⟨_, rfl, ?_⟩⟩⟩
    refine ite_yes (by decide +kernel) ?_
    exact ⟨_, rfl, ⟨.inl rfl, n, Nat.le_refl n, q⟩⟩
/-- a job -/
inductive Jb : D → Prop
  | no : Jb (.tup [])
  | a : Jb (.tup [.int 0, .int (-1), .bl false, .bl false, .bl false])
  | b : Jb (.tup [.int 1, .int 2, .bl true, .bl true, .bl true])
def fJob : FD := fun ds Q E n => ∃ d, ds = [d] ∧ Jb d ∧ Q (.bl true) n
def u_is_job : SD := dSeq (dIfS (dOr (dNot (dB (dCB fIsI (dCons (dVar 0) (dCons (dC (.ty "tuple")) (dNil)))))) (dB (dOp (fIn true) (dCB fLen (dCons (dVar 0) (dNil))) (dTup (dCons (dC (.int 0)) (dCons (dC (.int 5)) (dNil))))))) (dRet (dC (.bl false))) (dNext)) (dSeq (dIfS (dB (dOp (fEq false) (dCB fLen (dCons (dVar 0) (dNil))) (dC (.int 0)))) (dRet (dC (.bl true))) (dNext)) (dSeq (dAsg (dVar 0) (gdTup 5 (gdCons (gdName 1) (gdCons (gdName 2) (gdCons (gdName 3) (gdCons (gdName 4) (gdCons (gdName 5) (gdNil)))))))) (dSeq (dIfS (dOr (dNot (dB (dCall 2 fOne (dCons (dVar 1) (dCons (dTup (dCons (dC (.int 0)) (dCons (dC (.int 1)) (dNil)))) (dNil)))))) (dNot (dB (dCall 2 fOne (dCons (dVar 2) (dCons (dTup (dCons (dUn fNeg (dC (.int 1))) (dCons (dC (.int 0)) (dCons (dC (.int 1)) (dCons (dC (.int 2)) (dNil)))))) (dNil))))))) (dRet (dC (.bl false))) (dNext)) (dRet (dAndV (dCB fIsI (dCons (dVar 3) (dCons (dC (.ty "bool")) (dNil)))) (dAndV (dCB fIsI (dCons (dVar 4) (dCons (dC (.ty "bool")) (dNil)))) (dCB fIsI (dCons (dVar 5) (dCons (dC (.ty "bool")) (dNil))))))))))
abbrev F_is_job : FD := bodyF 6 u_is_job

theorem job_ok : ∀ ds Q E n, fJob ds Q E n → Fdown F_is_job ds Q E n := by
  rintro ds Q E n ⟨d, rfl, j, q⟩
  cases j with
  | no =>
    refine ⟨_, rfl, ⟨_, isi_tt, ⟨_, rfl, ⟨_, rfl, ⟨by decide, ⟨rfl, rfl, ⟨_, rfl, ?_⟩⟩⟩⟩⟩⟩⟩
    refine ite_no (by decide +kernel) ?_
    refine ⟨_, rfl, ⟨.inl rfl, ⟨_, rfl, ?_⟩⟩⟩
    exact ite_yes (by decide +kernel) ⟨n, Nat.le_refl n, q⟩
  | a =>
    refine ⟨_, rfl, ⟨_, isi_tt, ⟨_, rfl, ⟨_, rfl, ⟨by decide, ⟨rfl, rfl, ⟨_, rfl, ?_⟩⟩⟩⟩⟩⟩⟩
    refine ite_no (by decide +kernel) ?_
    refine ⟨_, rfl, ⟨.inl rfl, ⟨_, rfl, ?_⟩⟩⟩
    refine ite_no (by decide +kernel) ?_
    refine ⟨_, rfl, ⟨_, rfl, rfl, ⟨_, _, rfl, ⟨_, _, rfl, ⟨_, _, rfl, ⟨_, _, rfl, ⟨_, _, rfl, ⟨rfl, ?_⟩⟩⟩⟩⟩⟩⟩⟩
    refine ⟨_, rfl, ⟨by decide, ⟨rfl, 0, [0, 1], rfl, ⟨_, rfl, ?_⟩⟩⟩⟩
    refine ⟨_, rfl, ⟨by decide, ⟨rfl, -1, [-1, 0, 1, 2], rfl, ⟨_, rfl, ?_⟩⟩⟩⟩
    refine ⟨_, rfl, ⟨_, isi_bb, ⟨_, rfl, ⟨_, rfl, ⟨_, isi_bb, ⟨_, rfl, ⟨_, rfl, ⟨_, isi_bb, ⟨n, Nat.le_refl n, q⟩⟩⟩⟩⟩⟩⟩⟩⟩
  | b =>
    refine ⟨_, rfl, ⟨_, isi_tt, ⟨_, rfl, ⟨_, rfl, ⟨by decide, ⟨rfl, rfl, ⟨_, rfl, ?_⟩⟩⟩⟩⟩⟩⟩
    refine ite_no (by decide +kernel) ?_
    refine ⟨_, rfl, ⟨.inl rfl, ⟨_, rfl, ?_⟩⟩⟩
    refine ite_no (by decide +kernel) ?_
    refine ⟨_, rfl, ⟨_, rfl, rfl, ⟨_, _, rfl, ⟨_, _, rfl, ⟨_, _, rfl, ⟨_, _, rfl, ⟨_, _, rfl, ⟨rfl, ?_⟩⟩⟩⟩⟩⟩⟩⟩
    refine ⟨_, rfl, ⟨by decide, ⟨rfl, 1, [0, 1], rfl, ⟨_, rfl, ?_⟩⟩⟩⟩
    refine ⟨_, rfl, ⟨by decide, ⟨rfl, 2, [-1, 0, 1, 2], rfl, ⟨_, rfl, ?_⟩⟩⟩⟩
    refine ⟨_, rfl, ⟨_, isi_bb, ⟨_, rfl, ⟨_, rfl, ⟨_, isi_bb, ⟨_, rfl, ⟨_, rfl, ⟨_, isi_bb, ⟨n, Nat.le_refl n, q⟩⟩⟩⟩⟩⟩⟩⟩⟩
/-- a stand -/
structure Sd where
  w : Str
  l : Int
  nt : Bool
  a : Int
  b : Int
  c : Int
  base : Int
  gone : Int
  other : Int
  side : Bool
  job : D
def Sd.d (s : Sd) : D := .tup [dR s.w s.l s.nt, .tup [.int s.a, .int s.b, .int s.c], .int s.base, .int s.gone, .int s.other, .bl s.side, s.job]
def in3 (i : Int) : Prop := i = 0 ∨ i = 1 ∨ i = 2
structure Sd.Ok (s : Sd) : Prop where
  r : Rdr s.w s.l s.nt
  a : s.a = 1 ∨ s.a = 2
  b : in3 s.b
  c : in3 s.c
  base : s.base = 0 ∨ s.base = 1
  gone : in3 s.gone
  other : in3 s.other
  job : Jb s.job
theorem in3_any {i : Int} (h : in3 i) : ([0, 1, 2] : List Int).any (fun e => e == i) = true := by rcases h with rfl | rfl | rfl <;> decide
def fStand : FD := fun ds Q E n => ∃ s : Sd, ds = [s.d] ∧ s.Ok ∧ Q (.bl true) n
def u_is_stand : SD := dSeq (dIfS (dOr (dNot (dB (dCB fIsI (dCons (dVar 0) (dCons (dC (.ty "tuple")) (dNil)))))) (dB (dOp (fEq true) (dCB fLen (dCons (dVar 0) (dNil))) (dC (.int 7))))) (dRet (dC (.bl false))) (dNext)) (dSeq (dAsg (dVar 0) (gdTup 7 (gdCons (gdName 1) (gdCons (gdName 2) (gdCons (gdName 3) (gdCons (gdName 4) (gdCons (gdName 5) (gdCons (gdName 6) (gdCons (gdName 7) (gdNil)))))))))) (dSeq (dIfS (dOr (dNot (dB (dCall 1 fReader (dCons (dVar 1) (dNil))))) (dOr (dNot (dB (dCB fIsI (dCons (dVar 2) (dCons (dC (.ty "tuple")) (dNil)))))) (dB (dOp (fEq true) (dCB fLen (dCons (dVar 2) (dNil))) (dC (.int 3)))))) (dRet (dC (.bl false))) (dNext)) (dSeq (dFor (dSeqI (dVar 2)) (gdName 8) (dIfS (dNot (dB (dCall 2 fOne (dCons (dVar 8) (dCons (dTup (dCons (dC (.int 0)) (dCons (dC (.int 1)) (dCons (dC (.int 2)) (dNil))))) (dNil)))))) (dRet (dC (.bl false))) (dNext))) (dSeq (dIfS (dOr (dB (dOp (fEq false) (dOp fSub (dVar 2) (dC (.int 0))) (dC (.int 0)))) (dNot (dB (dCall 2 fOne (dCons (dVar 3) (dCons (dTup (dCons (dC (.int 0)) (dCons (dC (.int 1)) (dNil)))) (dNil))))))) (dRet (dC (.bl false))) (dNext)) (dRet (dAndV (dCall 2 fOne (dCons (dVar 4) (dCons (dTup (dCons (dC (.int 0)) (dCons (dC (.int 1)) (dCons (dC (.int 2)) (dNil))))) (dNil)))) (dAndV (dCall 2 fOne (dCons (dVar 5) (dCons (dTup (dCons (dC (.int 0)) (dCons (dC (.int 1)) (dCons (dC (.int 2)) (dNil))))) (dNil)))) (dAndV (dCB fIsI (dCons (dVar 6) (dCons (dC (.ty "bool")) (dNil)))) (dCall 1 fJob (dCons (dVar 7) (dNil)))))))))))
abbrev F_is_stand : FD := bodyF 9 u_is_stand

theorem stand_ok : ∀ ds Q E n, fStand ds Q E n → Fdown F_is_stand ds Q E n := by
  rintro ds Q E n ⟨s, rfl, ok, q⟩
  have a3 : in3 s.a := ok.a.elim (fun h => .inr (.inl h)) fun h => .inr (.inr h)
  refine ⟨_, rfl, ⟨_, isi_tt, ⟨_, rfl, ⟨_, rfl, ⟨.inl rfl, ⟨_, rfl, ?_⟩⟩⟩⟩⟩⟩
  refine ⟨_, rfl, ⟨_, rfl, rfl, ⟨_, _, rfl, ⟨_, _, rfl, ⟨_, _, rfl, ⟨_, _, rfl, ⟨_, _, rfl, ⟨_, _, rfl, ⟨_, _, rfl, ⟨rfl, ?_⟩⟩⟩⟩⟩⟩⟩⟩⟩⟩
  refine ⟨_, rfl, ⟨rfl, s.w, s.l, s.nt, rfl, ok.r, ⟨_, rfl, ⟨_, rfl, ⟨_, isi_tt, ⟨_, rfl, ⟨_, rfl, ⟨.inl rfl, ⟨_, rfl, ?_⟩⟩⟩⟩⟩⟩⟩⟩⟩
  refine ⟨_, rfl, ⟨_, rfl, ?_⟩⟩
  refine ⟨_, rfl, ⟨by decide, ⟨rfl, s.a, [0, 1, 2], rfl, ⟨_, rfl, ?_⟩⟩⟩⟩
  rw [in3_any a3]
  refine ⟨_, rfl, ⟨by decide, ⟨rfl, s.b, [0, 1, 2], rfl, ⟨_, rfl, ?_⟩⟩⟩⟩
  rw [in3_any ok.b]
  refine ⟨_, rfl, ⟨by decide, ⟨rfl, s.c, [0, 1, 2], rfl, ⟨_, rfl, ?_⟩⟩⟩⟩
  rw [in3_any ok.c]
  refine ⟨_, rfl, ⟨_, rfl, ⟨.inl rfl, ⟨_, rfl, ?_⟩⟩⟩⟩
  refine ite_no (by show (s.a == 0) = false; rcases ok.a with h | h <;> rw [h] <;> decide) ?_
  refine ⟨_, rfl, ⟨by decide, ⟨rfl, s.base, [0, 1], rfl, ⟨_, rfl, ?_⟩⟩⟩⟩
  rw [show ([0, 1] : List Int).any (fun e => e == s.base) = true by rcases ok.base with h | h <;> rw [h] <;> decide]
  refine ⟨_, rfl, ⟨by decide, ⟨rfl, s.gone, [0, 1, 2], rfl, ⟨_, rfl, ?_⟩⟩⟩⟩
  rw [in3_any ok.gone]
  refine ⟨_, rfl, ⟨by decide, ⟨rfl, s.other, [0, 1, 2], rfl, ⟨_, rfl, ?_⟩⟩⟩⟩
  rw [in3_any ok.other]
  refine ⟨_, rfl, ⟨_, isi_bb, ⟨_, rfl, ?_⟩⟩⟩
  exact ⟨_, rfl, ⟨rfl, s.job, rfl, ok.job, ⟨n, Nat.le_refl n, q⟩⟩⟩
/-- what is wrong: from the layer that is named downwards -/
def at1 (b gone : Int) (k : Bool) : Bool := if (1 : Int) == gone then true else if !(b == 0) then !(b == 1) else k
def at2 (c gone : Int) (k : Bool) : Bool := if (2 : Int) == gone then true else if !(c == 0) then !(c == 1) else k
def wrongS (s : Sd) : Bool := if s.w == "later" then false else
  if s.l = 1 then at1 s.b s.gone (!(s.a == 1)) else at2 s.c s.gone (if s.base = 1 then at1 s.b s.gone (!(s.a == 1)) else !(s.a == 1))
def fWrong : FD := fun ds Q E n => ∃ s : Sd, ds = [s.d] ∧ s.Ok ∧ Q (.bl (wrongS s)) n
def u_reads_wrong : SD := dSeq (dAsg (dVar 0) (gdTup 7 (gdCons (gdTup 3 (gdCons (gdName 1) (gdCons (gdName 2) (gdCons (gdName 3) (gdNil))))) (gdCons (gdName 4) (gdCons (gdName 5) (gdCons (gdName 6) (gdCons (gdName 7) (gdCons (gdName 8) (gdCons (gdName 9) (gdNil)))))))))) (dSeq (dIfS (dB (dOp (fEq false) (dVar 1) (dC (.str "later")))) (dRet (dC (.bl false))) (dNext)) (dSeq (dAsg (dVar 2) (gdName 10)) (dSeq (dWhile (dB (dOp (fEq true) (dVar 10) (dC (.int 0)))) (dSeq (dIfS (dB (dOp (fEq false) (dVar 10) (dVar 6))) (dRet (dC (.bl true))) (dNext)) (dSeq (dIfS (dB (dOp (fEq true) (dOp fSub (dVar 4) (dVar 10)) (dC (.int 0)))) (dRet (dOp (fEq true) (dOp fSub (dVar 4) (dVar 10)) (dC (.int 1)))) (dNext)) (dAsg (dIf (dB (dOp (fEq false) (dVar 10) (dC (.int 2)))) (dVar 5) (dC (.int 0))) (gdName 10))))) (dRet (dOp (fEq true) (dOp fSub (dVar 4) (dC (.int 0))) (dC (.int 1)))))))
abbrev F_reads_wrong : FD := bodyF 11 u_reads_wrong

theorem ite_by {b : Bool} {A B : Prop} (h1 : b = true → A) (h2 : b = false → B) : if b = true then A else B := by
  cases b with
  | true => exact h1 rfl
  | false => exact h2 rfl
theorem reads_ok : ∀ ds Q E n, fWrong ds Q E n → Fdown F_reads_wrong ds Q E n := by
  rintro ds Q E n ⟨s, rfl, ok, q⟩
  refine ⟨_, rfl, ⟨_, rfl, rfl, ⟨_, _, rfl, ⟨_, rfl, rfl, ⟨_, _, rfl, ⟨_, _, rfl, ⟨_, _, rfl, ⟨rfl, ⟨_, _, rfl, ⟨_, _, rfl, ⟨_, _, rfl, ⟨_, _, rfl, ⟨_, _, rfl, ⟨_, _, rfl, ⟨rfl, ?_⟩⟩⟩⟩⟩⟩⟩⟩⟩⟩⟩⟩⟩⟩⟩
  refine ⟨_, rfl, ⟨.inl rfl, ⟨_, rfl, ?_⟩⟩⟩
  refine ite_by (fun h => ?_) fun h => ?_
  · have h' : (s.w == "later") = true := h
    unfold wrongS at q
    rw [if_pos h'] at q
    exact ⟨n, Nat.le_refl n, q⟩
  · have h' : ¬ (s.w == "later") = true := fun z => by rw [show (s.w == "later") = false from h] at z; cases z
    unfold wrongS at q
    rw [if_neg h'] at q
    -- the end: at layer 0
    have fin : ∀ (here : Option Sl) (k : Nat), Q (.bl (!(s.a == 1))) n → dRet (dOp (fEq true) (dOp fSub (dVar 4) (dC (.int 0))) (dC (.int 1))) { nx := fun _ j => ∃ m, m ≤ j ∧ Q .non m, rt := fun d j => ∃ m, m ≤ j ∧ Q d m, ex := fun _ c fs j => ∃ m, m ≤ j ∧ E c fs m }
        [some (.sh s.d), some (.sh (.str s.w)), some (.sh (.int s.l)), some (.sh (.bl s.nt)), some (.sh (.tup [.int s.a, .int s.b, .int s.c])), some (.sh (.int s.base)), some (.sh (.int s.gone)), some (.sh (.int s.other)), some (.sh (.bl s.side)), some (.sh s.job), here] n := fun here k q =>
      ⟨_, rfl, ⟨_, rfl, ⟨.inl rfl, n, Nat.le_refl n, q⟩⟩⟩
    have one : ∀ (k : Nat), Q (.bl (at1 s.b s.gone (!(s.a == 1)))) n → dWh (dB (dOp (fEq true) (dVar 10) (dC (.int 0)))) (dSeq (dIfS (dB (dOp (fEq false) (dVar 10) (dVar 6))) (dRet (dC (.bl true))) (dNext)) (dSeq (dIfS (dB (dOp (fEq true) (dOp fSub (dVar 4) (dVar 10)) (dC (.int 0)))) (dRet (dOp (fEq true) (dOp fSub (dVar 4) (dVar 10)) (dC (.int 1)))) (dNext)) (dAsg (dIf (dB (dOp (fEq false) (dVar 10) (dC (.int 2)))) (dVar 5) (dC (.int 0))) (gdName 10))))
        { nx := dRet (dOp (fEq true) (dOp fSub (dVar 4) (dC (.int 0))) (dC (.int 1))) { nx := fun _ j => ∃ m, m ≤ j ∧ Q .non m, rt := fun d j => ∃ m, m ≤ j ∧ Q d m, ex := fun _ c fs j => ∃ m, m ≤ j ∧ E c fs m }, rt := fun d j => ∃ m, m ≤ j ∧ Q d m, ex := fun _ c fs j => ∃ m, m ≤ j ∧ E c fs m } (k + 2)
        [some (.sh s.d), some (.sh (.str s.w)), some (.sh (.int s.l)), some (.sh (.bl s.nt)), some (.sh (.tup [.int s.a, .int s.b, .int s.c])), some (.sh (.int s.base)), some (.sh (.int s.gone)), some (.sh (.int s.other)), some (.sh (.bl s.side)), some (.sh s.job), some (.sh (.int 1))] n := fun k q => by
      unfold at1 at q
      refine ⟨_, rfl, ⟨.inl rfl, ⟨_, rfl, ?_⟩⟩⟩
      refine ⟨_, rfl, ⟨_, rfl, ⟨.inl rfl, ⟨_, rfl, ite_by (fun g => ?_) fun g => ?_⟩⟩⟩⟩
      · rw [if_pos (show ((1 : Int) == s.gone) = true from g)] at q
        exact ⟨n, Nat.le_refl n, q⟩
      · rw [if_neg (show ¬ ((1 : Int) == s.gone) = true from fun z => by rw [show ((1 : Int) == s.gone) = false from g] at z; cases z)] at q
        refine ⟨_, rfl, ⟨_, rfl, ⟨_, rfl, ⟨.inl rfl, ⟨_, rfl, ite_by (fun g2 => ?_) fun g2 => ?_⟩⟩⟩⟩⟩
        · rw [if_pos (show (!(s.b == 0)) = true from g2)] at q
          exact ⟨_, rfl, ⟨_, rfl, ⟨_, rfl, ⟨.inl rfl, n, Nat.le_refl n, q⟩⟩⟩⟩
        · rw [if_neg (show ¬ (!(s.b == 0)) = true from fun z => by rw [show (!(s.b == 0)) = false from g2] at z; cases z)] at q
          refine ⟨_, rfl, ⟨.inl rfl, ⟨_, rfl, ?_⟩⟩⟩
          refine ⟨_, rfl, ⟨.inl rfl, ⟨_, rfl, ?_⟩⟩⟩
          exact fin _ k q
    refine ⟨_, rfl, ⟨4, ?_⟩⟩
    rcases ok.r.2.1 with hl | hl
    · rw [hl] at q ⊢
      rw [if_pos rfl] at q
      have := one 2 q
      rw [hl] at this
      exact this
    · rw [hl] at q ⊢
      rw [if_neg (by decide)] at q
      unfold at2 at q
      refine ⟨_, rfl, ⟨.inl rfl, ⟨_, rfl, ?_⟩⟩⟩
      refine ⟨_, rfl, ⟨_, rfl, ⟨.inl rfl, ⟨_, rfl, ite_by (fun g => ?_) fun g => ?_⟩⟩⟩⟩
      · rw [if_pos (show ((2 : Int) == s.gone) = true from g)] at q
        exact ⟨n, Nat.le_refl n, q⟩
      · rw [if_neg (show ¬ ((2 : Int) == s.gone) = true from fun z => by rw [show ((2 : Int) == s.gone) = false from g] at z; cases z)] at q
        refine ⟨_, rfl, ⟨_, rfl, ⟨_, rfl, ⟨.inl rfl, ⟨_, rfl, ite_by (fun g2 => ?_) fun g2 => ?_⟩⟩⟩⟩⟩
        · rw [if_pos (show (!(s.c == 0)) = true from g2)] at q
          exact ⟨_, rfl, ⟨_, rfl, ⟨_, rfl, ⟨.inl rfl, n, Nat.le_refl n, q⟩⟩⟩⟩
        · rw [if_neg (show ¬ (!(s.c == 0)) = true from fun z => by rw [show (!(s.c == 0)) = false from g2] at z; cases z)] at q
          refine ⟨_, rfl, ⟨.inl rfl, ⟨_, rfl, ?_⟩⟩⟩
          refine ⟨_, rfl, ?_⟩
          rcases ok.base with hb | hb
          · rw [hb] at q ⊢
            rw [if_neg (by decide)] at q
            refine ⟨_, rfl, ⟨.inl rfl, ⟨_, rfl, ?_⟩⟩⟩
            have := fin (some (.sh (.int 0))) 0 q
            rw [hl, hb] at this
            exact this
          · rw [hb] at q ⊢
            rw [if_pos rfl] at q
            have := one 1 q
            rw [hl, hb] at this
            exact this
def u_is_wrong : SD := dSeq (dIfS (dNot (dB (dCall 1 fStand (dCons (dVar 0) (dNil))))) (dNever) (dNext)) (dRet (dCall 1 fWrong (dCons (dVar 0) (dNil))))
abbrev F_is_wrong : FD := bodyF 1 u_is_wrong

theorem wrong_ok : ∀ ds Q E n, fWrong ds Q E n → Fdown F_is_wrong ds Q E n := by
  rintro ds Q E n ⟨s, rfl, ok, q⟩
  exact ⟨_, rfl, ⟨rfl, s, rfl, ok, ⟨_, rfl, ⟨_, rfl, ⟨rfl, s, rfl, ok, ⟨n, Nat.le_refl n, q⟩⟩⟩⟩⟩⟩
def u__law_scene_of : SD := dSeq (dAsg (dVar 0) (gdTup 7 (gdCons (gdTup 3 (gdCons (gdName 1) (gdCons (gdName 2) (gdCons (gdName 3) (gdNil))))) (gdCons (gdName 4) (gdCons (gdName 5) (gdCons (gdName 6) (gdCons (gdName 7) (gdCons (gdName 8) (gdCons (gdName 9) (gdNil)))))))))) (dSeq (dAsgO (dDisp [(dC (.str "word"), dVar 1), (dC (.str "seat"), dVar 2), (dC (.str "noted"), dVar 3), (dC (.str "tags"), dCB fListOf (dCons (dVar 4) (dNil))), (dC (.str "base"), dVar 5), (dC (.str "gone"), dVar 6), (dC (.str "other"), dVar 7), (dC (.str "side"), dVar 8), (dC (.str "task"), dC .non)]) 10) (dSeq (dIfS (dB (dOp (fEq true) (dVar 9) (dTup (dNil)))) (dDSet 10 (dC (.str "task")) (dDisp [(dC (.str "place"), dOp fSub (dVar 9) (dC (.int 0))), (dC (.str "seen"), dOp fSub (dVar 9) (dC (.int 1))), (dC (.str "mark"), dOp fSub (dVar 9) (dC (.int 2))), (dC (.str "half"), dOp fSub (dVar 9) (dC (.int 3))), (dC (.str "free"), dOp fSub (dVar 9) (dC (.int 4)))])) (dNext)) (dShare 10 (dRet (dVar 10)))))
abbrev F__law_scene_of : FD := bodyF 11 u__law_scene_of

theorem dGet_put (k k' : Key) (v : D) : ∀ kvs : List (Key × D), dGet (dPut kvs k v) k' = if k = k' then some v else dGet kvs k' := fun kvs => by
  have ap : ∀ l : List (Key × D), (l.any fun kv => decide (kv.1 = k)) = false → dGet (l ++ [(k, v)]) k' = if k = k' then some v else dGet l k' := fun l => by
    induction l with
    | nil =>
      intro _
      by_cases e : k = k'
      · rw [if_pos e]; simp [dGet, e]
      · rw [if_neg e]; simp [dGet, e]
    | cons p r ih =>
      intro h
      rw [List.any_cons, Bool.or_eq_false_iff] at h
      have h1 : ¬ p.1 = k := of_decide_eq_false h.1
      have ih := ih h.2
      by_cases q : p.1 = k'
      · have nk : ¬ k = k' := fun z => h1 (q.trans z.symm)
        rw [if_neg nk]
        simp [dGet, q]
      · have e1 : dGet (p :: r ++ [(k, v)]) k' = dGet (r ++ [(k, v)]) k' := by simp [dGet, q]
        have e2 : dGet (p :: r) k' = dGet r k' := by simp [dGet, q]
        rw [e1, e2, ih]
  have mp : ∀ l : List (Key × D), (l.any fun kv => decide (kv.1 = k)) = true → dGet (l.map (fun kv => if kv.1 = k then (kv.1, v) else kv)) k' = if k = k' then some v else dGet l k' := fun l => by
    have off : ∀ l : List (Key × D), ¬ k = k' → dGet (l.map (fun kv => if kv.1 = k then (kv.1, v) else kv)) k' = dGet l k' := fun l nk => by
      induction l with
      | nil => rfl
      | cons p r ih =>
        rw [List.map_cons]
        by_cases q : p.1 = k
        · have q' : ¬ p.1 = k' := fun z => nk (q.symm.trans z)
          have e1 : ∀ t : List (Key × D), dGet ((if p.1 = k then (p.1, v) else p) :: t) k' = dGet t k' := fun t => by rw [if_pos q]; simp [dGet, q']
          have e2 : dGet (p :: r) k' = dGet r k' := by simp [dGet, q']
          rw [e1, e2, ih]
        · rw [if_neg q]
          by_cases q' : p.1 = k'
          · simp [dGet, q']
          · have e1 : ∀ t : List (Key × D), dGet (p :: t) k' = dGet t k' := fun t => by simp [dGet, q']
            rw [e1, e1, ih]
    intro h
    by_cases e : k = k'
    · rw [if_pos e]
      subst e
      induction l with
      | nil => cases h
      | cons p r ih =>
        rw [List.map_cons]
        by_cases q : p.1 = k
        · rw [if_pos q]; simp [dGet, q]
        · rw [if_neg q]
          have e1 : ∀ t : List (Key × D), dGet (p :: t) k = dGet t k := fun t => by simp [dGet, q]
          rw [e1]
          rw [List.any_cons, decide_eq_false q, Bool.false_or] at h
          exact ih h
    · rw [if_neg e, off l e]
  unfold dPut
  cases h : kvs.any fun kv => decide (kv.1 = k) with
  | true => rw [if_pos rfl]; exact mp kvs h
  | false => rw [if_neg (by decide)]; exact ap kvs h
theorem merge_len : ∀ (l acc : List (Key × D)), (mergeD acc l).length ≤ acc.length + l.length
  | [], acc => Nat.le_refl _
  | p :: l, acc => by
    have h := merge_len l (dPut acc p.1 p.2)
    have h2 := dPut_length acc p.1 p.2
    show (mergeD (dPut acc p.1 p.2) l).length ≤ _
    rw [List.length_cons]
    omega
theorem jb_eq {d : D} (h : Jb d) : EqOk d := by cases h <;> exact ⟨_, rfl, by decide⟩
structure Scene (s : Sd) (kvs : List (Key × D)) : Prop where
  word : dGet kvs (.inr "word") = some (.str s.w)
  seat : dGet kvs (.inr "seat") = some (.int s.l)
  tags : dGet kvs (.inr "tags") = some (.lst [.int s.a, .int s.b, .int s.c])
  base : dGet kvs (.inr "base") = some (.int s.base)
  gone : dGet kvs (.inr "gone") = some (.int s.gone)
def fScene : FD := fun ds Q E n => ∃ s : Sd, ds = [s.d] ∧ s.Ok ∧ ∀ kvs, Scene s kvs → Q (.dct kvs) n
theorem scene_put {s : Sd} {kvs : List (Key × D)} {v : D} (h : Scene s kvs) : Scene s (dPut kvs (.inr "task") v) := by
  obtain ⟨h1, h2, h3, h4, h5⟩ := h
  exact ⟨by rw [dGet_put, if_neg (by decide +kernel)]; exact h1, by rw [dGet_put, if_neg (by decide +kernel)]; exact h2, by rw [dGet_put, if_neg (by decide +kernel)]; exact h3, by rw [dGet_put, if_neg (by decide +kernel)]; exact h4, by rw [dGet_put, if_neg (by decide +kernel)]; exact h5⟩
theorem scene_mk (s : Sd) (a1 a2 a3 a4 : D) : Scene s (mergeD [] [(.inr "word", .str s.w), (.inr "seat", .int s.l), (.inr "noted", a1), (.inr "tags", .lst [.int s.a, .int s.b, .int s.c]), (.inr "base", .int s.base), (.inr "gone", .int s.gone), (.inr "other", a2), (.inr "side", a3), (.inr "task", a4)]) := by
  constructor <;> (simp only [mergeD, List.foldl]; repeat (rw [dGet_put]; first | (rw [if_pos rfl]; done) | rw [if_neg (by decide +kernel)]))
theorem scene_ok : ∀ ds Q E n, fScene ds Q E n → Fdown F__law_scene_of ds Q E n := by
  rintro ds Q E n ⟨s, rfl, ok, k⟩
  refine ⟨_, rfl, ⟨_, rfl, rfl, ⟨_, _, rfl, ⟨_, rfl, rfl, ⟨_, _, rfl, ⟨_, _, rfl, ⟨_, _, rfl, ⟨rfl, ⟨_, _, rfl, ⟨_, _, rfl, ⟨_, _, rfl, ⟨_, _, rfl, ⟨_, _, rfl, ⟨_, _, rfl, ⟨rfl, ?_⟩⟩⟩⟩⟩⟩⟩⟩⟩⟩⟩⟩⟩⟩⟩
  refine ⟨_, rfl, ⟨_, rfl, ⟨_, rfl, ⟨_, rfl, ⟨_, rfl, ⟨_, rfl, ⟨_, rfl, ⟨_, rfl, ⟨_, rfl, (show 9 ≤ 15 by decide), ?_⟩⟩⟩⟩⟩⟩⟩⟩⟩
  have sc := scene_mk s (.bl s.nt) (.int s.other) (.bl s.side) .non
  have len : (mergeD [] [(.inr "word", .str s.w), (.inr "seat", .int s.l), (.inr "noted", .bl s.nt), (.inr "tags", .lst [.int s.a, .int s.b, .int s.c]), (.inr "base", .int s.base), (.inr "gone", .int s.gone), (.inr "other", .int s.other), (.inr "side", .bl s.side), (.inr "task", D.non)]).length < sizeLine :=
    Nat.lt_of_le_of_lt (merge_len _ _) (by show 9 < sizeLine; decide)
  refine ⟨_, rfl, ⟨Nat.zero_le _, ⟨.inr ⟨?_, ⟨_, rfl, by decide⟩⟩, ⟨_, rfl, ?_⟩⟩⟩⟩
  · exact jb_eq ok.job
  · rcases s with ⟨w, l, nt, a, b, c, base, gone, other, side, job⟩
    have jb : Jb job := ok.job
    cases jb with
    | no => exact ⟨_, rfl, ⟨_, rfl, n, Nat.le_refl n, k _ sc⟩⟩
    | a => exact ⟨_, rfl, ⟨_, rfl, ⟨_, rfl, ⟨_, rfl, ⟨_, rfl, ⟨_, rfl, ⟨_, rfl, ⟨_, rfl, ⟨_, rfl, ⟨_, rfl, ⟨_, rfl, ⟨_, rfl, by decide, ⟨_, rfl, len, ⟨_, rfl, ⟨_, rfl, n, Nat.le_refl n, k _ (scene_put sc)⟩⟩⟩⟩⟩⟩⟩⟩⟩⟩⟩⟩⟩⟩⟩
    | b => exact ⟨_, rfl, ⟨_, rfl, ⟨_, rfl, ⟨_, rfl, ⟨_, rfl, ⟨_, rfl, ⟨_, rfl, ⟨_, rfl, ⟨_, rfl, ⟨_, rfl, ⟨_, rfl, ⟨_, rfl, by decide, ⟨_, rfl, len, ⟨_, rfl, ⟨_, rfl, n, Nat.le_refl n, k _ (scene_put sc)⟩⟩⟩⟩⟩⟩⟩⟩⟩⟩⟩⟩⟩⟩⟩
def u__law_reads_wrong : SD := dSeq (dAsg (dCall 1 fScene (dCons (dVar 0) (dNil))) (gdName 1)) (dSeq (dIfS (dB (dOp (fEq false) (dOp fSub (dVar 1) (dC (.str "word"))) (dC (.str "later")))) (dRet (dC (.bl false))) (dNext)) (dSeq (dAsg (dIf (dB (dOp (fEq false) (dOp fSub (dVar 1) (dC (.str "base"))) (dC (.int 1)))) (dLst (dCons (dC (.int 2)) (dCons (dC (.int 1)) (dCons (dC (.int 0)) (dNil))))) (dLst (dCons (dC (.int 2)) (dCons (dC (.int 0)) (dNil))))) (gdName 2)) (dSeq (dAsg (dIf (dB (dOp (fEq false) (dOp fSub (dVar 1) (dC (.str "seat"))) (dC (.int 2)))) (dVar 2) (dLst (dCons (dC (.int 1)) (dCons (dC (.int 0)) (dNil))))) (gdName 2)) (dSeq (dFor (dSeqI (dVar 2)) (gdName 3) (dSeq (dIfS (dAnd (dB (dOp (fEq false) (dVar 3) (dOp fSub (dVar 1) (dC (.str "gone"))))) (dB (dOp (fEq true) (dVar 3) (dC (.int 0))))) (dRet (dC (.bl true))) (dNext)) (dIfS (dB (dOp (fEq true) (dOp fSub (dOp fSub (dVar 1) (dC (.str "tags"))) (dVar 3)) (dC (.int 0)))) (dRet (dOp (fEq true) (dOp fSub (dOp fSub (dVar 1) (dC (.str "tags"))) (dVar 3)) (dC (.int 1)))) (dNext)))) (dRet (dC (.bl true)))))))
abbrev F__law_reads_wrong : FD := bodyF 4 u__law_reads_wrong

abbrev wayU : SD := dSeq (dIfS (dAnd (dB (dOp (fEq false) (dVar 3) (dOp fSub (dVar 1) (dC (.str "gone"))))) (dB (dOp (fEq true) (dVar 3) (dC (.int 0))))) (dRet (dC (.bl true))) (dNext)) (dIfS (dB (dOp (fEq true) (dOp fSub (dOp fSub (dVar 1) (dC (.str "tags"))) (dVar 3)) (dC (.int 0)))) (dRet (dOp (fEq true) (dOp fSub (dOp fSub (dVar 1) (dC (.str "tags"))) (dVar 3)) (dC (.int 1)))) (dNext))
abbrev slW (s : Sd) (kvs : List (Key × D)) (way spot : Option Sl) : DE := [some (.sh s.d), some (.sh (.dct kvs)), way, spot]
section
variable {s : Sd} {kvs : List (Key × D)} {way spot : Option Sl} {QQ : DEnds} {n : Nat}
theorem way0 (sc : Scene s kvs) (ok : s.Ok) (q : QQ.rt (.bl (!(s.a == 1))) n) : dForL (gdName 3) wayU QQ [.int 0] (slW s kvs way spot) n := by
  have z : ∀ g : Bool, (if g = true then wayU QQ else wayU QQ) = wayU QQ := fun g => by cases g <;> rfl
  refine ⟨_, rfl, ⟨_, rfl, ⟨_, _, rfl, sc.gone, ⟨.inl rfl, ⟨_, rfl, ?_⟩⟩⟩⟩⟩
  have rest : dIfS (dB (dOp (fEq true) (dOp fSub (dOp fSub (dVar 1) (dC (.str "tags"))) (dVar 3)) (dC (.int 0)))) (dRet (dOp (fEq true) (dOp fSub (dOp fSub (dVar 1) (dC (.str "tags"))) (dVar 3)) (dC (.int 1)))) (dNext) { QQ with nx := QQ.nx, ct := QQ.nx, bk := QQ.nx } (slW s kvs way (some (.sh (.int 0)))) n := by
    refine ⟨_, rfl, ⟨_, _, rfl, sc.tags, ⟨_, rfl, ⟨_, rfl, ⟨.inl rfl, ⟨_, rfl, ?_⟩⟩⟩⟩⟩⟩
    refine ite_yes (by show (!(s.a == 0)) = true; rcases ok.a with h | h <;> rw [h] <;> decide) ?_
    exact ⟨_, rfl, ⟨_, _, rfl, sc.tags, ⟨_, rfl, ⟨_, rfl, ⟨.inl rfl, q⟩⟩⟩⟩⟩
  refine ite_by (fun g => ?_) fun g => rest
  exact ⟨_, rfl, ⟨.inl rfl, ⟨_, rfl, rest⟩⟩⟩
theorem way1 (sc : Scene s kvs) (ok : s.Ok) (q : QQ.rt (.bl (at1 s.b s.gone (!(s.a == 1)))) n) : dForL (gdName 3) wayU QQ [.int 1, .int 0] (slW s kvs way spot) n := by
  unfold at1 at q
  refine ⟨_, rfl, ⟨_, rfl, ⟨_, _, rfl, sc.gone, ⟨.inl rfl, ⟨_, rfl, ite_by (fun g => ?_) fun g => ?_⟩⟩⟩⟩⟩
  · rw [if_pos (show ((1 : Int) == s.gone) = true from g)] at q
    exact ⟨_, rfl, ⟨.inl rfl, ⟨_, rfl, q⟩⟩⟩
  · rw [if_neg (show ¬ ((1 : Int) == s.gone) = true from fun z => by rw [show ((1 : Int) == s.gone) = false from g] at z; cases z)] at q
    refine ⟨_, rfl, ⟨_, _, rfl, sc.tags, ⟨_, rfl, ⟨_, rfl, ⟨.inl rfl, ⟨_, rfl, ite_by (fun g2 => ?_) fun g2 => ?_⟩⟩⟩⟩⟩⟩
    · rw [if_pos (show (!(s.b == 0)) = true from g2)] at q
      exact ⟨_, rfl, ⟨_, _, rfl, sc.tags, ⟨_, rfl, ⟨_, rfl, ⟨.inl rfl, q⟩⟩⟩⟩⟩
    · rw [if_neg (show ¬ (!(s.b == 0)) = true from fun z => by rw [show (!(s.b == 0)) = false from g2] at z; cases z)] at q
      exact way0 sc ok q
theorem way2 (sc : Scene s kvs) (ok : s.Ok) {r : List D} {k : Bool} (hr : ∀ spot', QQ.rt (.bl k) n → dForL (gdName 3) wayU QQ r (slW s kvs way spot') n) (q : QQ.rt (.bl (at2 s.c s.gone k)) n) : dForL (gdName 3) wayU QQ (.int 2 :: r) (slW s kvs way spot) n := by
  unfold at2 at q
  refine ⟨_, rfl, ⟨_, rfl, ⟨_, _, rfl, sc.gone, ⟨.inl rfl, ⟨_, rfl, ite_by (fun g => ?_) fun g => ?_⟩⟩⟩⟩⟩
  · rw [if_pos (show ((2 : Int) == s.gone) = true from g)] at q
    exact ⟨_, rfl, ⟨.inl rfl, ⟨_, rfl, q⟩⟩⟩
  · rw [if_neg (show ¬ ((2 : Int) == s.gone) = true from fun z => by rw [show ((2 : Int) == s.gone) = false from g] at z; cases z)] at q
    refine ⟨_, rfl, ⟨_, _, rfl, sc.tags, ⟨_, rfl, ⟨_, rfl, ⟨.inl rfl, ⟨_, rfl, ite_by (fun g2 => ?_) fun g2 => ?_⟩⟩⟩⟩⟩⟩
    · rw [if_pos (show (!(s.c == 0)) = true from g2)] at q
      exact ⟨_, rfl, ⟨_, _, rfl, sc.tags, ⟨_, rfl, ⟨_, rfl, ⟨.inl rfl, q⟩⟩⟩⟩⟩
    · rw [if_neg (show ¬ (!(s.c == 0)) = true from fun z => by rw [show (!(s.c == 0)) = false from g2] at z; cases z)] at q
      exact hr _ q
end
theorem lreads_ok : ∀ ds Q E n, fWrong ds Q E n → Fdown F__law_reads_wrong ds Q E n := by
  rintro ds Q E n ⟨s, rfl, ok, q⟩
  refine ⟨_, rfl, ⟨rfl, s, rfl, ok, fun kvs sc => ?_⟩⟩
  refine ⟨_, rfl, ⟨_, _, rfl, sc.word, ⟨.inl rfl, ⟨_, rfl, ite_by (fun h => ?_) fun h => ?_⟩⟩⟩⟩
  · unfold wrongS at q
    rw [if_pos (show (s.w == "later") = true from h)] at q
    exact ⟨n, Nat.le_refl n, q⟩
  · unfold wrongS at q
    rw [if_neg (show ¬ (s.w == "later") = true from fun z => by rw [show (s.w == "later") = false from h] at z; cases z)] at q
    refine ⟨_, rfl, ⟨_, _, rfl, sc.base, ⟨.inl rfl, ⟨_, rfl, ?_⟩⟩⟩⟩
    have seat : ∀ w0 : D, (s.l = 2 → itemsD w0 = some (if s.base = 1 then [.int 2, .int 1, .int 0] else [.int 2, .int 0])) → dSeq (dAsg (dIf (dB (dOp (fEq false) (dOp fSub (dVar 1) (dC (.str "seat"))) (dC (.int 2)))) (dVar 2) (dLst (dCons (dC (.int 1)) (dCons (dC (.int 0)) (dNil))))) (gdName 2)) (dSeq (dFor (dSeqI (dVar 2)) (gdName 3) wayU) (dRet (dC (.bl true))))
        { nx := fun _ j => ∃ m, m ≤ j ∧ Q .non m, rt := fun d j => ∃ m, m ≤ j ∧ Q d m, ex := fun _ c fs j => ∃ m, m ≤ j ∧ E c fs m } (slW s kvs (some (.sh w0)) none) n := fun w0 hw => by
      refine ⟨_, rfl, ⟨_, _, rfl, sc.seat, ⟨.inl rfl, ⟨_, rfl, ?_⟩⟩⟩⟩
      rcases ok.r.2.1 with hl | hl
      · refine ite_no (by show (s.l == 2) = false; rw [hl]; decide) ?_
        rw [if_pos hl] at q
        exact ⟨by decide, ⟨_, rfl, ⟨_, rfl, way1 sc ok ⟨n, Nat.le_refl n, q⟩⟩⟩⟩
      · refine ite_yes (by show (s.l == 2) = true; rw [hl]; decide) ?_
        rw [if_neg (by rw [hl]; decide)] at q
        refine ⟨_, rfl, ⟨_, rfl, ⟨_, hw hl, ?_⟩⟩⟩
        by_cases hb : s.base = 1
        · rw [if_pos hb] at q ⊢
          exact way2 sc ok (fun sp q' => way1 sc ok q') ⟨n, Nat.le_refl n, q⟩
        · rw [if_neg hb] at q ⊢
          exact way2 sc ok (fun sp q' => way0 sc ok q') ⟨n, Nat.le_refl n, q⟩
    rcases ok.base with hb | hb
    · refine ite_no (by show (s.base == 1) = false; rw [hb]; decide) ?_
      exact ⟨by decide, seat _ fun _ => by rw [hb]; rfl⟩
    · refine ite_yes (by show (s.base == 1) = true; rw [hb]; decide) ?_
      exact ⟨by decide, seat _ fun _ => by rw [hb]; rfl⟩
--SPECS--
def u_law : SD := dSeq (dFor (dRng1 (dCons (dOp fAdd (dC (.int 10)) (dCB fMin (dCons (dCB fLen (dCons (dVar 0) (dNil))) (dCons (dC (.int 40)) (dNil))))) (dNil))) (gdName 2) (dSeq (dPar 3 4 (dCons (dCall 2 fPick (dCons (dVar 1) (dCons (dLst (dCons (dC (.str "above")) (dCons (dC (.str "later")) (dCons (dC (.str "sits")) (dNil))))) (dNil)))) (dCons (dOp fAdd (dC (.int 1)) (dCall 2 fTake (dCons (dVar 1) (dCons (dC (.int 2)) (dNil))))) (dNil)))) (dSeq (dAsg (dTup (dCons (dOp fAdd (dC (.int 1)) (dCall 2 fTake (dCons (dVar 1) (dCons (dC (.int 2)) (dNil))))) (dCons (dCall 2 fTake (dCons (dVar 1) (dCons (dC (.int 3)) (dNil)))) (dCons (dCall 2 fTake (dCons (dVar 1) (dCons (dC (.int 3)) (dNil)))) (dNil))))) (gdName 5)) (dSeq (dPar3 6 7 8 (dCons (dCall 2 fTake (dCons (dVar 1) (dCons (dC (.int 2)) (dNil)))) (dCons (dCall 2 fTake (dCons (dVar 1) (dCons (dC (.int 3)) (dNil)))) (dCons (dCall 2 fTake (dCons (dVar 1) (dCons (dC (.int 3)) (dNil)))) (dNil))))) (dSeq (dAsg (dCall 2 fPick (dCons (dVar 1) (dCons (dLst (dCons (dTup (dNil)) (dCons (dTup (dCons (dC (.int 0)) (dCons (dUn fNeg (dC (.int 1))) (dCons (dC (.bl false)) (dCons (dC (.bl false)) (dCons (dC (.bl false)) (dNil))))))) (dCons (dTup (dCons (dC (.int 1)) (dCons (dC (.int 2)) (dCons (dC (.bl true)) (dCons (dC (.bl true)) (dCons (dC (.bl true)) (dNil))))))) (dNil))))) (dNil)))) (gdName 9)) (dSeq (dAsg (dAndV (dOp (fEq false) (dVar 3) (dC (.str "above"))) (dAndV (dOp (fEq false) (dVar 4) (dC (.int 2))) (dOp (fEq false) (dCall 2 fTake (dCons (dVar 1) (dCons (dC (.int 2)) (dNil)))) (dC (.int 0))))) (gdName 10)) (dSeq (dAsg (dTup (dCons (dTup (dCons (dVar 3) (dCons (dVar 4) (dCons (dVar 10) (dNil))))) (dCons (dVar 5) (dCons (dVar 6) (dCons (dVar 7) (dCons (dVar 8) (dCons (dOp (fEq false) (dCall 2 fTake (dCons (dVar 1) (dCons (dC (.int 2)) (dNil)))) (dC (.int 0))) (dCons (dVar 9) (dNil))))))))) (gdName 11)) (dSeq (dAsg (dCall 1 fWrong (dCons (dVar 11) (dNil))) (gdName 12)) (dIfS (dB (dOp (fEq true) (dCB fShow (dCons (dLst (dCons (dCall 1 fWrong (dCons (dVar 11) (dNil))) (dCons (dCall 1 fWrong (dCons (dVar 11) (dNil))) (dNil)))) (dNil))) (dCB fShow (dCons (dLst (dCons (dVar 12) (dCons (dVar 12) (dNil)))) (dNil))))) (dRet (dC (.bl false))) (dNext)))))))))) (dRet (dC (.bl true)))
abbrev ub_law_0 : SD := dSeq (dPar 3 4 (dCons (dCall 2 fPick (dCons (dVar 1) (dCons (dLst (dCons (dC (.str "above")) (dCons (dC (.str "later")) (dCons (dC (.str "sits")) (dNil))))) (dNil)))) (dCons (dOp fAdd (dC (.int 1)) (dCall 2 fTake (dCons (dVar 1) (dCons (dC (.int 2)) (dNil))))) (dNil)))) (dSeq (dAsg (dTup (dCons (dOp fAdd (dC (.int 1)) (dCall 2 fTake (dCons (dVar 1) (dCons (dC (.int 2)) (dNil))))) (dCons (dCall 2 fTake (dCons (dVar 1) (dCons (dC (.int 3)) (dNil)))) (dCons (dCall 2 fTake (dCons (dVar 1) (dCons (dC (.int 3)) (dNil)))) (dNil))))) (gdName 5)) (dSeq (dPar3 6 7 8 (dCons (dCall 2 fTake (dCons (dVar 1) (dCons (dC (.int 2)) (dNil)))) (dCons (dCall 2 fTake (dCons (dVar 1) (dCons (dC (.int 3)) (dNil)))) (dCons (dCall 2 fTake (dCons (dVar 1) (dCons (dC (.int 3)) (dNil)))) (dNil))))) (dSeq (dAsg (dCall 2 fPick (dCons (dVar 1) (dCons (dLst (dCons (dTup (dNil)) (dCons (dTup (dCons (dC (.int 0)) (dCons (dUn fNeg (dC (.int 1))) (dCons (dC (.bl false)) (dCons (dC (.bl false)) (dCons (dC (.bl false)) (dNil))))))) (dCons (dTup (dCons (dC (.int 1)) (dCons (dC (.int 2)) (dCons (dC (.bl true)) (dCons (dC (.bl true)) (dCons (dC (.bl true)) (dNil))))))) (dNil))))) (dNil)))) (gdName 9)) (dSeq (dAsg (dAndV (dOp (fEq false) (dVar 3) (dC (.str "above"))) (dAndV (dOp (fEq false) (dVar 4) (dC (.int 2))) (dOp (fEq false) (dCall 2 fTake (dCons (dVar 1) (dCons (dC (.int 2)) (dNil)))) (dC (.int 0))))) (gdName 10)) (dSeq (dAsg (dTup (dCons (dTup (dCons (dVar 3) (dCons (dVar 4) (dCons (dVar 10) (dNil))))) (dCons (dVar 5) (dCons (dVar 6) (dCons (dVar 7) (dCons (dVar 8) (dCons (dOp (fEq false) (dCall 2 fTake (dCons (dVar 1) (dCons (dC (.int 2)) (dNil)))) (dC (.int 0))) (dCons (dVar 9) (dNil))))))))) (gdName 11)) (dSeq (dAsg (dCall 1 fWrong (dCons (dVar 11) (dNil))) (gdName 12)) (dIfS (dB (dOp (fEq true) (dCB fShow (dCons (dLst (dCons (dCall 1 fWrong (dCons (dVar 11) (dNil))) (dCons (dCall 1 fWrong (dCons (dVar 11) (dNil))) (dNil)))) (dNil))) (dCB fShow (dCons (dLst (dCons (dVar 12) (dCons (dVar 12) (dNil)))) (dNil))))) (dRet (dC (.bl false))) (dNext))))))))
abbrev ub_law_1 : SD := dSeq (dAsg (dTup (dCons (dOp fAdd (dC (.int 1)) (dCall 2 fTake (dCons (dVar 1) (dCons (dC (.int 2)) (dNil))))) (dCons (dCall 2 fTake (dCons (dVar 1) (dCons (dC (.int 3)) (dNil)))) (dCons (dCall 2 fTake (dCons (dVar 1) (dCons (dC (.int 3)) (dNil)))) (dNil))))) (gdName 5)) (dSeq (dPar3 6 7 8 (dCons (dCall 2 fTake (dCons (dVar 1) (dCons (dC (.int 2)) (dNil)))) (dCons (dCall 2 fTake (dCons (dVar 1) (dCons (dC (.int 3)) (dNil)))) (dCons (dCall 2 fTake (dCons (dVar 1) (dCons (dC (.int 3)) (dNil)))) (dNil))))) (dSeq (dAsg (dCall 2 fPick (dCons (dVar 1) (dCons (dLst (dCons (dTup (dNil)) (dCons (dTup (dCons (dC (.int 0)) (dCons (dUn fNeg (dC (.int 1))) (dCons (dC (.bl false)) (dCons (dC (.bl false)) (dCons (dC (.bl false)) (dNil))))))) (dCons (dTup (dCons (dC (.int 1)) (dCons (dC (.int 2)) (dCons (dC (.bl true)) (dCons (dC (.bl true)) (dCons (dC (.bl true)) (dNil))))))) (dNil))))) (dNil)))) (gdName 9)) (dSeq (dAsg (dAndV (dOp (fEq false) (dVar 3) (dC (.str "above"))) (dAndV (dOp (fEq false) (dVar 4) (dC (.int 2))) (dOp (fEq false) (dCall 2 fTake (dCons (dVar 1) (dCons (dC (.int 2)) (dNil)))) (dC (.int 0))))) (gdName 10)) (dSeq (dAsg (dTup (dCons (dTup (dCons (dVar 3) (dCons (dVar 4) (dCons (dVar 10) (dNil))))) (dCons (dVar 5) (dCons (dVar 6) (dCons (dVar 7) (dCons (dVar 8) (dCons (dOp (fEq false) (dCall 2 fTake (dCons (dVar 1) (dCons (dC (.int 2)) (dNil)))) (dC (.int 0))) (dCons (dVar 9) (dNil))))))))) (gdName 11)) (dSeq (dAsg (dCall 1 fWrong (dCons (dVar 11) (dNil))) (gdName 12)) (dIfS (dB (dOp (fEq true) (dCB fShow (dCons (dLst (dCons (dCall 1 fWrong (dCons (dVar 11) (dNil))) (dCons (dCall 1 fWrong (dCons (dVar 11) (dNil))) (dNil)))) (dNil))) (dCB fShow (dCons (dLst (dCons (dVar 12) (dCons (dVar 12) (dNil)))) (dNil))))) (dRet (dC (.bl false))) (dNext)))))))
abbrev ub_law_2 : SD := dSeq (dPar3 6 7 8 (dCons (dCall 2 fTake (dCons (dVar 1) (dCons (dC (.int 2)) (dNil)))) (dCons (dCall 2 fTake (dCons (dVar 1) (dCons (dC (.int 3)) (dNil)))) (dCons (dCall 2 fTake (dCons (dVar 1) (dCons (dC (.int 3)) (dNil)))) (dNil))))) (dSeq (dAsg (dCall 2 fPick (dCons (dVar 1) (dCons (dLst (dCons (dTup (dNil)) (dCons (dTup (dCons (dC (.int 0)) (dCons (dUn fNeg (dC (.int 1))) (dCons (dC (.bl false)) (dCons (dC (.bl false)) (dCons (dC (.bl false)) (dNil))))))) (dCons (dTup (dCons (dC (.int 1)) (dCons (dC (.int 2)) (dCons (dC (.bl true)) (dCons (dC (.bl true)) (dCons (dC (.bl true)) (dNil))))))) (dNil))))) (dNil)))) (gdName 9)) (dSeq (dAsg (dAndV (dOp (fEq false) (dVar 3) (dC (.str "above"))) (dAndV (dOp (fEq false) (dVar 4) (dC (.int 2))) (dOp (fEq false) (dCall 2 fTake (dCons (dVar 1) (dCons (dC (.int 2)) (dNil)))) (dC (.int 0))))) (gdName 10)) (dSeq (dAsg (dTup (dCons (dTup (dCons (dVar 3) (dCons (dVar 4) (dCons (dVar 10) (dNil))))) (dCons (dVar 5) (dCons (dVar 6) (dCons (dVar 7) (dCons (dVar 8) (dCons (dOp (fEq false) (dCall 2 fTake (dCons (dVar 1) (dCons (dC (.int 2)) (dNil)))) (dC (.int 0))) (dCons (dVar 9) (dNil))))))))) (gdName 11)) (dSeq (dAsg (dCall 1 fWrong (dCons (dVar 11) (dNil))) (gdName 12)) (dIfS (dB (dOp (fEq true) (dCB fShow (dCons (dLst (dCons (dCall 1 fWrong (dCons (dVar 11) (dNil))) (dCons (dCall 1 fWrong (dCons (dVar 11) (dNil))) (dNil)))) (dNil))) (dCB fShow (dCons (dLst (dCons (dVar 12) (dCons (dVar 12) (dNil)))) (dNil))))) (dRet (dC (.bl false))) (dNext))))))
abbrev ub_law_3 : SD := dSeq (dAsg (dCall 2 fPick (dCons (dVar 1) (dCons (dLst (dCons (dTup (dNil)) (dCons (dTup (dCons (dC (.int 0)) (dCons (dUn fNeg (dC (.int 1))) (dCons (dC (.bl false)) (dCons (dC (.bl false)) (dCons (dC (.bl false)) (dNil))))))) (dCons (dTup (dCons (dC (.int 1)) (dCons (dC (.int 2)) (dCons (dC (.bl true)) (dCons (dC (.bl true)) (dCons (dC (.bl true)) (dNil))))))) (dNil))))) (dNil)))) (gdName 9)) (dSeq (dAsg (dAndV (dOp (fEq false) (dVar 3) (dC (.str "above"))) (dAndV (dOp (fEq false) (dVar 4) (dC (.int 2))) (dOp (fEq false) (dCall 2 fTake (dCons (dVar 1) (dCons (dC (.int 2)) (dNil)))) (dC (.int 0))))) (gdName 10)) (dSeq (dAsg (dTup (dCons (dTup (dCons (dVar 3) (dCons (dVar 4) (dCons (dVar 10) (dNil))))) (dCons (dVar 5) (dCons (dVar 6) (dCons (dVar 7) (dCons (dVar 8) (dCons (dOp (fEq false) (dCall 2 fTake (dCons (dVar 1) (dCons (dC (.int 2)) (dNil)))) (dC (.int 0))) (dCons (dVar 9) (dNil))))))))) (gdName 11)) (dSeq (dAsg (dCall 1 fWrong (dCons (dVar 11) (dNil))) (gdName 12)) (dIfS (dB (dOp (fEq true) (dCB fShow (dCons (dLst (dCons (dCall 1 fWrong (dCons (dVar 11) (dNil))) (dCons (dCall 1 fWrong (dCons (dVar 11) (dNil))) (dNil)))) (dNil))) (dCB fShow (dCons (dLst (dCons (dVar 12) (dCons (dVar 12) (dNil)))) (dNil))))) (dRet (dC (.bl false))) (dNext)))))
abbrev ub_law_4 : SD := dSeq (dAsg (dAndV (dOp (fEq false) (dVar 3) (dC (.str "above"))) (dAndV (dOp (fEq false) (dVar 4) (dC (.int 2))) (dOp (fEq false) (dCall 2 fTake (dCons (dVar 1) (dCons (dC (.int 2)) (dNil)))) (dC (.int 0))))) (gdName 10)) (dSeq (dAsg (dTup (dCons (dTup (dCons (dVar 3) (dCons (dVar 4) (dCons (dVar 10) (dNil))))) (dCons (dVar 5) (dCons (dVar 6) (dCons (dVar 7) (dCons (dVar 8) (dCons (dOp (fEq false) (dCall 2 fTake (dCons (dVar 1) (dCons (dC (.int 2)) (dNil)))) (dC (.int 0))) (dCons (dVar 9) (dNil))))))))) (gdName 11)) (dSeq (dAsg (dCall 1 fWrong (dCons (dVar 11) (dNil))) (gdName 12)) (dIfS (dB (dOp (fEq true) (dCB fShow (dCons (dLst (dCons (dCall 1 fWrong (dCons (dVar 11) (dNil))) (dCons (dCall 1 fWrong (dCons (dVar 11) (dNil))) (dNil)))) (dNil))) (dCB fShow (dCons (dLst (dCons (dVar 12) (dCons (dVar 12) (dNil)))) (dNil))))) (dRet (dC (.bl false))) (dNext))))
abbrev ub_law_5 : SD := dSeq (dAsg (dTup (dCons (dTup (dCons (dVar 3) (dCons (dVar 4) (dCons (dVar 10) (dNil))))) (dCons (dVar 5) (dCons (dVar 6) (dCons (dVar 7) (dCons (dVar 8) (dCons (dOp (fEq false) (dCall 2 fTake (dCons (dVar 1) (dCons (dC (.int 2)) (dNil)))) (dC (.int 0))) (dCons (dVar 9) (dNil))))))))) (gdName 11)) (dSeq (dAsg (dCall 1 fWrong (dCons (dVar 11) (dNil))) (gdName 12)) (dIfS (dB (dOp (fEq true) (dCB fShow (dCons (dLst (dCons (dCall 1 fWrong (dCons (dVar 11) (dNil))) (dCons (dCall 1 fWrong (dCons (dVar 11) (dNil))) (dNil)))) (dNil))) (dCB fShow (dCons (dLst (dCons (dVar 12) (dCons (dVar 12) (dNil)))) (dNil))))) (dRet (dC (.bl false))) (dNext)))
abbrev ub_law_6 : SD := dSeq (dAsg (dCall 1 fWrong (dCons (dVar 11) (dNil))) (gdName 12)) (dIfS (dB (dOp (fEq true) (dCB fShow (dCons (dLst (dCons (dCall 1 fWrong (dCons (dVar 11) (dNil))) (dCons (dCall 1 fWrong (dCons (dVar 11) (dNil))) (dNil)))) (dNil))) (dCB fShow (dCons (dLst (dCons (dVar 12) (dCons (dVar 12) (dNil)))) (dNil))))) (dRet (dC (.bl false))) (dNext))
abbrev ub_law_7 : SD := dIfS (dB (dOp (fEq true) (dCB fShow (dCons (dLst (dCons (dCall 1 fWrong (dCons (dVar 11) (dNil))) (dCons (dCall 1 fWrong (dCons (dVar 11) (dNil))) (dNil)))) (dNil))) (dCB fShow (dCons (dLst (dCons (dVar 12) (dCons (dVar 12) (dNil)))) (dNil))))) (dRet (dC (.bl false))) (dNext)

theorem stand_of {w : Str} {l a b c base gone other : Int} {nt side : Bool} {job : D} (h1 : Rdr w l nt) (h2 : a = 1 ∨ a = 2) (h3 : in3 b) (h4 : in3 c) (h5 : base = 0 ∨ base = 1) (h6 : in3 gone) (h7 : in3 other) (h8 : Jb job) : (Sd.mk w l nt a b c base gone other side job).Ok := ⟨h1, h2, h3, h4, h5, h6, h7, h8⟩
theorem r2 {r : Int} (h0 : 0 ≤ r) (h1 : r < 2) : r = 0 ∨ r = 1 := by omega
theorem r3 {r : Int} (h0 : 0 ≤ r) (h1 : r < 3) : in3 r := by unfold in3; omega
theorem sh1 (b : Bool) : (PyData.list [.bool b, .bool b]).showable = true := by cases b <;> decide +kernel
theorem sh2 (b : Bool) : (PyData.list [.bool b, .bool b]).depth ≤ 60 := by cases b <;> decide +kernel
theorem sh3 (b : Bool) : (PyData.list [.bool b, .bool b]).shown.length ≤ sizeLine := by cases b <;> decide +kernel
theorem str_self (x : Str) : (!(x == x)) = false := by rw [← dec_str]; simp
abbrev slL (ns : List Int) (o2 o3 o4 o5 o6 o7 o8 o9 o10 o11 o12 : Option Sl) : DE := [some (.sh (.scr ns)), some (.sh .draw), o2, o3, o4, o5, o6, o7, o8, o9, o10, o11, o12]
theorem law_tail {ns : List Int} {DD : DEnds} {N m : Nat} {w : Str} {l a b c base gone other : Int} {nt : Bool} {job : D} {o2 o11 o12 : Option Sl} (h1 : Rdr w l nt) (h2 : a = 1 ∨ a = 2) (h3 : in3 b) (h4 : in3 c) (h5 : base = 0 ∨ base = 1) (h6 : in3 gone) (h7 : in3 other) (h8 : Jb job) (hm : N ≤ m)
    (k : ∀ o11 o12 m, N ≤ m → DD.nx (slL ns o2 (some (.sh (.str w))) (some (.sh (.int l))) (some (.sh (.tup [.int a, .int b, .int c]))) (some (.sh (.int base))) (some (.sh (.int gone))) (some (.sh (.int other))) (some (.sh job)) (some (.sh (.bl nt))) o11 o12) m) :
    ub_law_5 DD (slL ns o2 (some (.sh (.str w))) (some (.sh (.int l))) (some (.sh (.tup [.int a, .int b, .int c]))) (some (.sh (.int base))) (some (.sh (.int gone))) (some (.sh (.int other))) (some (.sh job)) (some (.sh (.bl nt))) o11 o12) (m + 1) := by
  refine ⟨_, rfl, ⟨_, rfl, ⟨_, rfl, ⟨(show 3 ≤ sizeLine by decide), ⟨_, rfl, ⟨_, rfl, ⟨_, rfl, ⟨_, rfl, ?_⟩⟩⟩⟩⟩⟩⟩⟩
  refine ⟨_, rfl, ⟨rfl, 2, _, rfl, rfl, by decide, by decide, fun rs _ _ => ⟨.inl rfl, ⟨_, rfl, ⟨(show 7 ≤ sizeLine by decide), ?_⟩⟩⟩⟩⟩
  have ok := fun side : Bool => stand_of (side := side) h1 h2 h3 h4 h5 h6 h7 h8
  refine ⟨_, rfl, ⟨rfl, ⟨w, l, nt, a, b, c, base, gone, other, _, job⟩, rfl, ok _, ?_⟩⟩
  refine ⟨_, rfl, ⟨rfl, ⟨w, l, nt, a, b, c, base, gone, other, _, job⟩, rfl, ok _, ?_⟩⟩
  refine ⟨_, rfl, ⟨rfl, ⟨w, l, nt, a, b, c, base, gone, other, _, job⟩, rfl, ok _, ?_⟩⟩
  refine ⟨(show 2 ≤ sizeLine by decide), ⟨_, rfl, sh1 _, sh2 _, sh3 _, ?_⟩⟩
  refine ⟨_, rfl, ⟨_, rfl, ⟨(show 2 ≤ sizeLine by decide), ⟨_, rfl, sh1 _, sh2 _, sh3 _, ?_⟩⟩⟩⟩
  exact ⟨.inl rfl, ⟨_, rfl, ite_no (str_self _) (k _ _ m hm)⟩⟩
theorem law_loop {ns : List Int} {QQ : DEnds} (fin : ∀ o2 o3 o4 o5 o6 o7 o8 o9 o10 o11 o12 m, QQ.nx (slL ns o2 o3 o4 o5 o6 o7 o8 o9 o10 o11 o12) m) : ∀ (xs : List D) (o2 o3 o4 o5 o6 o7 o8 o9 o10 o11 o12 : Option Sl) (n : Nat), 11 * xs.length ≤ n →
    dForL (gdName 2) ub_law_0 QQ xs (slL ns o2 o3 o4 o5 o6 o7 o8 o9 o10 o11 o12) n
  | [], o2, o3, o4, o5, o6, o7, o8, o9, o10, o11, o12, n, _ => fin o2 o3 o4 o5 o6 o7 o8 o9 o10 o11 o12 n
  | x :: xs, o2, o3, o4, o5, o6, o7, o8, o9, o10, o11, o12, n, hn => by
    rw [List.length_cons] at hn
    obtain ⟨N, rfl⟩ : ∃ N, n = N + 11 := ⟨n - 11, by omega⟩
    have hN : 11 * xs.length ≤ N := by omega
    refine ⟨_, rfl, ⟨by decide, ⟨rfl, _, _, .inl rfl, rfl, List.cons_ne_nil _ _, by decide, fun w0 hw0 => ?_⟩⟩⟩
    obtain ⟨w, rfl, hw⟩ : ∃ w : Str, w0 = .str w ∧ (w = "above" ∨ w = "later" ∨ w = "sits") := by
      simp only [List.mem_cons, List.not_mem_nil, or_false] at hw0
      rcases hw0 with rfl | rfl | rfl
      · exact ⟨_, rfl, .inl rfl⟩
      · exact ⟨_, rfl, .inr (.inl rfl)⟩
      · exact ⟨_, rfl, .inr (.inr rfl)⟩
    refine ⟨_, rfl, ⟨rfl, 2, _, rfl, rfl, by decide, by decide, fun r hr0 hr1 => ⟨_, _, rfl, ?_⟩⟩⟩
    refine ⟨_, rfl, ⟨rfl, 2, _, rfl, rfl, by decide, by decide, fun ra ha0 ha1 => ?_⟩⟩
    refine ⟨_, rfl, ⟨rfl, 3, _, rfl, rfl, by decide, by decide, fun rb hb0 hb1 => ?_⟩⟩
    refine ⟨_, rfl, ⟨rfl, 3, _, rfl, rfl, by decide, by decide, fun rc hc0 hc1 => ⟨(show 3 ≤ sizeLine by decide), ?_⟩⟩⟩
    refine ⟨_, rfl, ⟨rfl, 2, _, rfl, rfl, by decide, by decide, fun rd hd0 hd1 => ?_⟩⟩
    refine ⟨_, rfl, ⟨rfl, 3, _, rfl, rfl, by decide, by decide, fun rg hg0 hg1 => ?_⟩⟩
    refine ⟨_, rfl, ⟨rfl, 3, _, rfl, rfl, by decide, by decide, fun ro ho0 ho1 => ⟨_, _, _, rfl, ?_⟩⟩⟩
    refine ⟨_, rfl, ⟨by decide, ⟨by decide, ⟨by decide, ⟨by decide, ⟨rfl, _, _, .inl rfl, rfl, List.cons_ne_nil _ _, by decide, fun job hj => ?_⟩⟩⟩⟩⟩⟩
    have hj' : Jb job := by
      simp only [List.mem_cons, List.not_mem_nil, or_false] at hj
      rcases hj with rfl | rfl | rfl
      · exact .no
      · exact .a
      · exact .b
    have hl : (1 : Int) + r = 1 ∨ (1 : Int) + r = 2 := by omega
    have tail := fun (nt : Bool) (m : Nat) (h1 : Rdr w (1 + r) nt) (hm : N ≤ m) (o2 o11 o12 : Option Sl) => law_tail (ns := ns) (DD := { QQ with nx := dForL (gdName 2) ub_law_0 QQ xs, ct := dForL (gdName 2) ub_law_0 QQ xs, bk := QQ.nx }) (o2 := o2) (o11 := o11) (o12 := o12) (a := 1 + ra) h1 (by omega) (r3 hb0 hb1) (r3 hc0 hc1) (r2 hd0 hd1) (r3 hg0 hg1) (r3 ho0 ho1) hj' hm
      fun o11 o12 m hm => law_loop fin xs o2 _ _ _ _ _ _ _ _ o11 o12 m (Nat.le_trans hN hm)
    refine ⟨_, rfl, ⟨.inl rfl, ⟨_, rfl, ite_by (fun g1 => ?_) fun g1 => ?_⟩⟩⟩
    · have ew : w = "above" := by
        have g1' : (w == "above") = true := g1
        rcases hw with rfl | rfl | rfl
        · rfl
        · exact absurd g1' (by decide +kernel)
        · exact absurd g1' (by decide +kernel)
      refine ⟨_, rfl, ⟨.inl rfl, ⟨_, rfl, ite_by (fun g2 => ?_) fun g2 => ?_⟩⟩⟩
      · have el : (1 : Int) + r = 2 := eq_of_beq (show ((1 + r : Int) == 2) = true from g2)
        exact ⟨_, rfl, ⟨rfl, 2, _, rfl, rfl, by decide, by decide, fun rn _ _ => ⟨.inl rfl, tail _ N ⟨hw, hl, fun _ => ⟨ew, el⟩⟩ (Nat.le_refl N) _ _ _⟩⟩⟩
      · exact tail false (N + 1) ⟨hw, hl, fun z => by cases z⟩ (Nat.le_succ N) _ _ _
    · exact tail false (N + 1) ⟨hw, hl, fun z => by cases z⟩ (Nat.le_succ N) _ _ _
theorem law_ok : LawD 13 u_law := fun ns hl => by
  have e : (if (40 : Int) < (ns.length : Int) then (40 : Int) else (ns.length : Int)) ≤ 40 ∧ 0 ≤ (if (40 : Int) < (ns.length : Int) then (40 : Int) else (ns.length : Int)) := by split <;> omega
  refine ⟨_, rfl, ⟨_, rfl, by omega, by omega, ?_⟩⟩
  refine law_loop (ns := ns) (fun o2 o3 o4 o5 o6 o7 o8 o9 o10 o11 o12 m => rfl) _ none none none none none none none none none none none _ ?_
  unfold rgD
  rw [List.length_map, List.length_range]
  omega

section
variable {P : Program} {w : World} {K : PySem.W.Frag} {mg : Str → Option Value} {base : Heap} {CA : Nat → Addr} {f : Addr} {fd : FuncData}
theorem sc_is_number : FnScope ["thing"] ["thing"] (defScope s_is_number) := ⟨rfl, rfl, rfl, by decide +kernel, rfl, by decide +kernel, by decide +kernel⟩
theorem ok_is_number (F : Fun K "is_number" "is_number" s_is_number f fd) (T : Txt mg)  : FnG P w K mg base 1 f fd ["thing"] (spD K CA 1 (bodyF 1 u_is_number)) := by
  have nd := (sc_is_number).nd
  refine okD F sc_is_number rfl rfl fun cd A outer s H E hg hr tk => ?_
  have Y : WSs (cxD P w K mg base ["thing"] "is_number" s_is_number f cd A outer s H E) K CA (wxD E) (defBody s_is_number) _ _ := wss_one (ws_ret (we_and (we_cb sim_isi (wa_cons (we_var (pv 0)) (wa_cons (we_ty (pe_bltn (by rfl) T.z_int boot_intU rfl)) (wa_nil))) (fun a => pe_callB call_isiU (by rfl) T.z_isinstance boot_isinstanceU a)) (we_one (we_not (we_cb sim_isi (wa_cons (we_var (pv 0)) (wa_cons (we_ty (pe_bltn (by rfl) T.z_bool boot_boolU rfl)) (wa_nil))) (fun a => pe_callB call_isiU (by rfl) T.z_isinstance boot_isinstanceU a))))))
  exact ⟨_, Y⟩
theorem sc_is_one_of : FnScope ["thing", "numbers"] ["thing", "numbers"] (defScope s_is_one_of) := ⟨rfl, rfl, rfl, by decide +kernel, rfl, by decide +kernel, by decide +kernel⟩
theorem ok_is_one_of (F : Fun K "is_one_of" "is_one_of" s_is_one_of f fd) (T : Txt mg) (D_is_number : Df P w K mg base CA "is_number" 1 ["thing"] fNum) : FnG P w K mg base 2 f fd ["thing", "numbers"] (spD K CA 2 (bodyF 2 u_is_one_of)) := by
  have nd := (sc_is_one_of).nd
  refine okD F sc_is_one_of rfl rfl fun cd A outer s H E hg hr tk => ?_
  have Y : WSs (cxD P w K mg base ["thing", "numbers"] "is_one_of" s_is_one_of f cd A outer s H E) K CA (wxD E) (defBody s_is_one_of) _ _ := wss_one (ws_ret (we_and (we_call D_is_number hg (hr.mono (by decide)) tk (wa_cons (we_var (pv 0)) (wa_nil))) (we_one (we_cmp (op_inU (hu_of hr)) sim_in (we_var (pv 0)) (we_var (pv 1)) (by rfl)))))
  exact ⟨_, Y⟩
theorem sc_is_reader : FnScope ["thing", "word", "layer", "noted"] ["thing"] (defScope s_is_reader) := ⟨rfl, rfl, rfl, by decide +kernel, rfl, by decide +kernel, by decide +kernel⟩
theorem ok_is_reader (F : Fun K "is_reader" "is_reader" s_is_reader f fd) (T : Txt mg) (D_is_one_of : Df P w K mg base CA "is_one_of" 2 ["thing", "numbers"] fOne) : FnG P w K mg base 3 f fd ["thing"] (spD K CA 1 (bodyF 4 u_is_reader)) := by
  have nd := (sc_is_reader).nd
  refine okD F sc_is_reader rfl rfl fun cd A outer s H E hg hr tk => ?_
  have Y : WSs (cxD P w K mg base ["thing", "word", "layer", "noted"] "is_reader" s_is_reader f cd A outer s H E) K CA (wxD E) (defBody s_is_reader) _ _ := wss_cons (ws_if ((ww_or (wt_not (wt_val (we_cb sim_isi (wa_cons (we_var (pv 0)) (wa_cons (we_ty (pe_bltn (by rfl) T.z_tuple boot_tupleU rfl)) (wa_nil))) (fun a => pe_callB call_isiU (by rfl) T.z_isinstance boot_isinstanceU a)))) (ww_or (wt_cmp (op_neU hr.units) sim_ne (we_cb sim_len (wa_cons (we_var (pv 0)) (wa_nil)) (fun a => pe_callB call_lenU (by rfl) T.z_len boot_lenU a)) (we_int) (by rfl)) (ww_or1 (wt_not (wt_val (we_cb sim_isi (wa_cons (we_ix (ixU (hu_of hr)) sim_sub (we_var (pv 0)) (we_int)) (wa_cons (we_ty (pe_bltn (by rfl) T.z_str boot_strU rfl)) (wa_nil))) (fun a => pe_callB call_isiU (by rfl) T.z_isinstance boot_isinstanceU a))))))).wt) (wss_one (ws_ret (we_bl))) (wss_nil)) (wss_cons (ws_asg (we_var (pv 0)) (wg_tup rfl (wgs_cons (wg_name (pg_name (i := 1) nd rfl (by first | exact Or.inl rfl | exact Or.inr rfl))) (wgs_cons (wg_name (pg_name (i := 2) nd rfl (by first | exact Or.inl rfl | exact Or.inr rfl))) (wgs_cons (wg_name (pg_name (i := 3) nd rfl (by first | exact Or.inl rfl | exact Or.inr rfl))) (wgs_nil)))))) (wss_cons (ws_if ((ww_or (wt_cmp (op_notInU (hu_of hr)) sim_in (we_var (pv 1)) (we_tup (wa_cons (we_str) (wa_cons (we_str) (wa_cons (we_str) (wa_nil))))) (by rfl)) (ww_or (wt_not (wt_val (we_call D_is_one_of hg (hr.mono (by decide)) tk (wa_cons (we_var (pv 2)) (wa_cons (we_tup (wa_cons (we_int) (wa_cons (we_int) (wa_nil)))) (wa_nil)))))) (ww_or1 (wt_not (wt_val (we_cb sim_isi (wa_cons (we_var (pv 3)) (wa_cons (we_ty (pe_bltn (by rfl) T.z_bool boot_boolU rfl)) (wa_nil))) (fun a => pe_callB call_isiU (by rfl) T.z_isinstance boot_isinstanceU a))))))).wt) (wss_one (ws_ret (we_bl))) (wss_nil)) (wss_one (ws_ret (we_or (we_not (we_var (pv 3))) (we_one (we_and (we_cmp (op_eqU hr.units) sim_eq (we_var (pv 1)) (we_str) (by rfl)) (we_one (we_cmp (op_eqU hr.units) sim_eq (we_var (pv 2)) (we_int) (by rfl))))))))))
  exact ⟨_, Y⟩
theorem sc_is_job : FnScope ["thing", "place", "seen", "mark", "half", "free"] ["thing"] (defScope s_is_job) := ⟨rfl, rfl, rfl, by decide +kernel, rfl, by decide +kernel, by decide +kernel⟩
theorem ok_is_job (F : Fun K "is_job" "is_job" s_is_job f fd) (T : Txt mg) (D_is_one_of : Df P w K mg base CA "is_one_of" 2 ["thing", "numbers"] fOne) : FnG P w K mg base 3 f fd ["thing"] (spD K CA 1 (bodyF 6 u_is_job)) := by
  have nd := (sc_is_job).nd
  refine okD F sc_is_job rfl rfl fun cd A outer s H E hg hr tk => ?_
  have Y : WSs (cxD P w K mg base ["thing", "place", "seen", "mark", "half", "free"] "is_job" s_is_job f cd A outer s H E) K CA (wxD E) (defBody s_is_job) _ _ := wss_cons (ws_if ((ww_or (wt_not (wt_val (we_cb sim_isi (wa_cons (we_var (pv 0)) (wa_cons (we_ty (pe_bltn (by rfl) T.z_tuple boot_tupleU rfl)) (wa_nil))) (fun a => pe_callB call_isiU (by rfl) T.z_isinstance boot_isinstanceU a)))) (ww_or1 (wt_cmp (op_notInU (hu_of hr)) sim_in (we_cb sim_len (wa_cons (we_var (pv 0)) (wa_nil)) (fun a => pe_callB call_lenU (by rfl) T.z_len boot_lenU a)) (we_tup (wa_cons (we_int) (wa_cons (we_int) (wa_nil)))) (by rfl)))).wt) (wss_one (ws_ret (we_bl))) (wss_nil)) (wss_cons (ws_if (wt_cmp (op_eqU hr.units) sim_eq (we_cb sim_len (wa_cons (we_var (pv 0)) (wa_nil)) (fun a => pe_callB call_lenU (by rfl) T.z_len boot_lenU a)) (we_int) (by rfl)) (wss_one (ws_ret (we_bl))) (wss_nil)) (wss_cons (ws_asg (we_var (pv 0)) (wg_tup rfl (wgs_cons (wg_name (pg_name (i := 1) nd rfl (by first | exact Or.inl rfl | exact Or.inr rfl))) (wgs_cons (wg_name (pg_name (i := 2) nd rfl (by first | exact Or.inl rfl | exact Or.inr rfl))) (wgs_cons (wg_name (pg_name (i := 3) nd rfl (by first | exact Or.inl rfl | exact Or.inr rfl))) (wgs_cons (wg_name (pg_name (i := 4) nd rfl (by first | exact Or.inl rfl | exact Or.inr rfl))) (wgs_cons (wg_name (pg_name (i := 5) nd rfl (by first | exact Or.inl rfl | exact Or.inr rfl))) (wgs_nil)))))))) (wss_cons (ws_if ((ww_or (wt_not (wt_val (we_call D_is_one_of hg (hr.mono (by decide)) tk (wa_cons (we_var (pv 1)) (wa_cons (we_tup (wa_cons (we_int) (wa_cons (we_int) (wa_nil)))) (wa_nil)))))) (ww_or1 (wt_not (wt_val (we_call D_is_one_of hg (hr.mono (by decide)) tk (wa_cons (we_var (pv 2)) (wa_cons (we_tup (wa_cons (we_neg (we_int)) (wa_cons (we_int) (wa_cons (we_int) (wa_cons (we_int) (wa_nil)))))) (wa_nil)))))))).wt) (wss_one (ws_ret (we_bl))) (wss_nil)) (wss_one (ws_ret (we_and (we_cb sim_isi (wa_cons (we_var (pv 3)) (wa_cons (we_ty (pe_bltn (by rfl) T.z_bool boot_boolU rfl)) (wa_nil))) (fun a => pe_callB call_isiU (by rfl) T.z_isinstance boot_isinstanceU a)) (we_and (we_cb sim_isi (wa_cons (we_var (pv 4)) (wa_cons (we_ty (pe_bltn (by rfl) T.z_bool boot_boolU rfl)) (wa_nil))) (fun a => pe_callB call_isiU (by rfl) T.z_isinstance boot_isinstanceU a)) (we_one (we_cb sim_isi (wa_cons (we_var (pv 5)) (wa_cons (we_ty (pe_bltn (by rfl) T.z_bool boot_boolU rfl)) (wa_nil))) (fun a => pe_callB call_isiU (by rfl) T.z_isinstance boot_isinstanceU a))))))))))
  exact ⟨_, Y⟩
theorem sc_is_stand : FnScope ["thing", "reader", "cells", "base", "gone", "other", "side", "job", "tag"] ["thing"] (defScope s_is_stand) := ⟨rfl, rfl, rfl, by decide +kernel, rfl, by decide +kernel, by decide +kernel⟩
theorem ok_is_stand (F : Fun K "is_stand" "is_stand" s_is_stand f fd) (T : Txt mg) (D_is_reader : Df P w K mg base CA "is_reader" 3 ["thing"] fReader) (D_is_one_of : Df P w K mg base CA "is_one_of" 2 ["thing", "numbers"] fOne) (D_is_job : Df P w K mg base CA "is_job" 3 ["thing"] fJob) : FnG P w K mg base 4 f fd ["thing"] (spD K CA 1 (bodyF 9 u_is_stand)) := by
  have nd := (sc_is_stand).nd
  refine okD F sc_is_stand rfl rfl fun cd A outer s H E hg hr tk => ?_
  have Y : WSs (cxD P w K mg base ["thing", "reader", "cells", "base", "gone", "other", "side", "job", "tag"] "is_stand" s_is_stand f cd A outer s H E) K CA (wxD E) (defBody s_is_stand) _ _ := wss_cons (ws_if ((ww_or (wt_not (wt_val (we_cb sim_isi (wa_cons (we_var (pv 0)) (wa_cons (we_ty (pe_bltn (by rfl) T.z_tuple boot_tupleU rfl)) (wa_nil))) (fun a => pe_callB call_isiU (by rfl) T.z_isinstance boot_isinstanceU a)))) (ww_or1 (wt_cmp (op_neU hr.units) sim_ne (we_cb sim_len (wa_cons (we_var (pv 0)) (wa_nil)) (fun a => pe_callB call_lenU (by rfl) T.z_len boot_lenU a)) (we_int) (by rfl)))).wt) (wss_one (ws_ret (we_bl))) (wss_nil)) (wss_cons (ws_asg (we_var (pv 0)) (wg_tup rfl (wgs_cons (wg_name (pg_name (i := 1) nd rfl (by first | exact Or.inl rfl | exact Or.inr rfl))) (wgs_cons (wg_name (pg_name (i := 2) nd rfl (by first | exact Or.inl rfl | exact Or.inr rfl))) (wgs_cons (wg_name (pg_name (i := 3) nd rfl (by first | exact Or.inl rfl | exact Or.inr rfl))) (wgs_cons (wg_name (pg_name (i := 4) nd rfl (by first | exact Or.inl rfl | exact Or.inr rfl))) (wgs_cons (wg_name (pg_name (i := 5) nd rfl (by first | exact Or.inl rfl | exact Or.inr rfl))) (wgs_cons (wg_name (pg_name (i := 6) nd rfl (by first | exact Or.inl rfl | exact Or.inr rfl))) (wgs_cons (wg_name (pg_name (i := 7) nd rfl (by first | exact Or.inl rfl | exact Or.inr rfl))) (wgs_nil)))))))))) (wss_cons (ws_if ((ww_or (wt_not (wt_val (we_call D_is_reader hg (hr.mono (by decide)) tk (wa_cons (we_var (pv 1)) (wa_nil))))) (ww_or (wt_not (wt_val (we_cb sim_isi (wa_cons (we_var (pv 2)) (wa_cons (we_ty (pe_bltn (by rfl) T.z_tuple boot_tupleU rfl)) (wa_nil))) (fun a => pe_callB call_isiU (by rfl) T.z_isinstance boot_isinstanceU a)))) (ww_or1 (wt_cmp (op_neU hr.units) sim_ne (we_cb sim_len (wa_cons (we_var (pv 2)) (wa_nil)) (fun a => pe_callB call_lenU (by rfl) T.z_len boot_lenU a)) (we_int) (by rfl))))).wt) (wss_one (ws_ret (we_bl))) (wss_nil)) (wss_cons (ws_for (wi_seq (we_var (pv 2))) (wg_name (pg_name (i := 8) nd rfl (by first | exact Or.inl rfl | exact Or.inr rfl))) (wss_one (ws_if (wt_not (wt_val (we_call D_is_one_of hg (hr.mono (by decide)) tk (wa_cons (we_var (pv 8)) (wa_cons (we_tup (wa_cons (we_int) (wa_cons (we_int) (wa_cons (we_int) (wa_nil))))) (wa_nil)))))) (wss_one (ws_ret (we_bl))) (wss_nil))) (fun i g b => ps_for (passes_of rfl) rfl i g b)) (wss_cons (ws_if ((ww_or (wt_cmp (op_eqU hr.units) sim_eq (we_ix (ixU (hu_of hr)) sim_sub (we_var (pv 2)) (we_int)) (we_int) (by rfl)) (ww_or1 (wt_not (wt_val (we_call D_is_one_of hg (hr.mono (by decide)) tk (wa_cons (we_var (pv 3)) (wa_cons (we_tup (wa_cons (we_int) (wa_cons (we_int) (wa_nil)))) (wa_nil)))))))).wt) (wss_one (ws_ret (we_bl))) (wss_nil)) (wss_one (ws_ret (we_and (we_call D_is_one_of hg (hr.mono (by decide)) tk (wa_cons (we_var (pv 4)) (wa_cons (we_tup (wa_cons (we_int) (wa_cons (we_int) (wa_cons (we_int) (wa_nil))))) (wa_nil)))) (we_and (we_call D_is_one_of hg (hr.mono (by decide)) tk (wa_cons (we_var (pv 5)) (wa_cons (we_tup (wa_cons (we_int) (wa_cons (we_int) (wa_cons (we_int) (wa_nil))))) (wa_nil)))) (we_and (we_cb sim_isi (wa_cons (we_var (pv 6)) (wa_cons (we_ty (pe_bltn (by rfl) T.z_bool boot_boolU rfl)) (wa_nil))) (fun a => pe_callB call_isiU (by rfl) T.z_isinstance boot_isinstanceU a)) (we_one (we_call D_is_job hg (hr.mono (by decide)) tk (wa_cons (we_var (pv 7)) (wa_nil)))))))))))))
  exact ⟨_, Y⟩
theorem sc_reads_wrong : FnScope ["stand", "word", "layer", "noted", "cells", "base", "gone", "other", "side", "job", "here"] ["stand"] (defScope s_reads_wrong) := ⟨rfl, rfl, rfl, by decide +kernel, rfl, by decide +kernel, by decide +kernel⟩
theorem ok_reads_wrong (F : Fun K "reads_wrong" "reads_wrong" s_reads_wrong f fd) (T : Txt mg)  : FnG P w K mg base 1 f fd ["stand"] (spD K CA 1 (bodyF 11 u_reads_wrong)) := by
  have nd := (sc_reads_wrong).nd
  refine okD F sc_reads_wrong rfl rfl fun cd A outer s H E hg hr tk => ?_
  have Y : WSs (cxD P w K mg base ["stand", "word", "layer", "noted", "cells", "base", "gone", "other", "side", "job", "here"] "reads_wrong" s_reads_wrong f cd A outer s H E) K CA (wxD E) (defBody s_reads_wrong) _ _ := wss_cons (ws_asg (we_var (pv 0)) (wg_tup rfl (wgs_cons (wg_tup rfl (wgs_cons (wg_name (pg_name (i := 1) nd rfl (by first | exact Or.inl rfl | exact Or.inr rfl))) (wgs_cons (wg_name (pg_name (i := 2) nd rfl (by first | exact Or.inl rfl | exact Or.inr rfl))) (wgs_cons (wg_name (pg_name (i := 3) nd rfl (by first | exact Or.inl rfl | exact Or.inr rfl))) (wgs_nil))))) (wgs_cons (wg_name (pg_name (i := 4) nd rfl (by first | exact Or.inl rfl | exact Or.inr rfl))) (wgs_cons (wg_name (pg_name (i := 5) nd rfl (by first | exact Or.inl rfl | exact Or.inr rfl))) (wgs_cons (wg_name (pg_name (i := 6) nd rfl (by first | exact Or.inl rfl | exact Or.inr rfl))) (wgs_cons (wg_name (pg_name (i := 7) nd rfl (by first | exact Or.inl rfl | exact Or.inr rfl))) (wgs_cons (wg_name (pg_name (i := 8) nd rfl (by first | exact Or.inl rfl | exact Or.inr rfl))) (wgs_cons (wg_name (pg_name (i := 9) nd rfl (by first | exact Or.inl rfl | exact Or.inr rfl))) (wgs_nil)))))))))) (wss_cons (ws_if (wt_cmp (op_eqU hr.units) sim_eq (we_var (pv 1)) (we_str) (by rfl)) (wss_one (ws_ret (we_bl))) (wss_nil)) (wss_cons (ws_set (we_var (pv 2)) (fun q => ps_set (i := 10) nd rfl (by first | exact Or.inl rfl | exact Or.inr rfl) q)) (wss_cons (ws_while (wt_cmp (op_neU hr.units) sim_ne (we_var (pv 10)) (we_int) (by rfl)) (wss_cons (ws_if (wt_cmp (op_eqU hr.units) sim_eq (we_var (pv 10)) (we_var (pv 6)) (by rfl)) (wss_one (ws_ret (we_bl))) (wss_nil)) (wss_cons (ws_if (wt_cmp (op_neU hr.units) sim_ne (we_ix (ixU (hu_of hr)) sim_sub (we_var (pv 4)) (we_var (pv 10))) (we_int) (by rfl)) (wss_one (ws_ret (we_cmp (op_neU hr.units) sim_ne (we_ix (ixU (hu_of hr)) sim_sub (we_var (pv 4)) (we_var (pv 10))) (we_int) (by rfl)))) (wss_nil)) (wss_one (ws_set (we_ifExp (wt_cmp (op_eqU hr.units) sim_eq (we_var (pv 10)) (we_int) (by rfl)) (we_var (pv 5)) (we_int)) (fun q => ps_set (i := 10) nd rfl (by first | exact Or.inl rfl | exact Or.inr rfl) q))))) (fun c b => ps_while (passes_of rfl) c b)) (wss_one (ws_ret (we_cmp (op_neU hr.units) sim_ne (we_ix (ixU (hu_of hr)) sim_sub (we_var (pv 4)) (we_int)) (we_int) (by rfl)))))))
  exact ⟨_, Y⟩
theorem sc_is_wrong : FnScope ["stand"] ["stand"] (defScope s_is_wrong) := ⟨rfl, rfl, rfl, by decide +kernel, rfl, by decide +kernel, by decide +kernel⟩
theorem ok_is_wrong (F : Fun K "is_wrong" "is_wrong" s_is_wrong f fd) (T : Txt mg) (D_is_stand : Df P w K mg base CA "is_stand" 4 ["thing"] fStand) (D_reads_wrong : Df P w K mg base CA "reads_wrong" 1 ["stand"] fWrong) : FnG P w K mg base 5 f fd ["stand"] (spD K CA 1 (bodyF 1 u_is_wrong)) := by
  have nd := (sc_is_wrong).nd
  refine okD F sc_is_wrong rfl rfl fun cd A outer s H E hg hr tk => ?_
  have Y : WSs (cxD P w K mg base ["stand"] "is_wrong" s_is_wrong f cd A outer s H E) K CA (wxD E) (defBody s_is_wrong) _ _ := wss_cons (ws_if (wt_not (wt_val (we_call D_is_stand hg (hr.mono (by decide)) tk (wa_cons (we_var (pv 0)) (wa_nil))))) (wss_one (ws_never)) (wss_nil)) (wss_one (ws_ret (we_call D_reads_wrong hg (hr.mono (by decide)) tk (wa_cons (we_var (pv 0)) (wa_nil)))))
  exact ⟨_, Y⟩
theorem sc__law_begun : FnScope ["_law_script", "_law_wide", "_law_cell"] ["_law_script"] (defScope s__law_begun) := ⟨rfl, rfl, rfl, by decide +kernel, rfl, by decide +kernel, by decide +kernel⟩
theorem ok__law_begun (F : Fun K "_law_begun" "_law_begun" s__law_begun f fd) (T : Txt mg) : FnG P w K mg base 1 f fd ["_law_script"] (spBegun K CA) := by
  have nd := (sc__law_begun).nd
  refine okBegun F sc__law_begun rfl fun cd A outer s H E hg hr tk => ?_
  have X1 : WS (cxD P w K mg base ["_law_script", "_law_wide", "_law_cell"] "_law_begun" s__law_begun f cd A outer s H E) K CA (wxD E) ((defBody s__law_begun).getD 0 (.Pass ⟨0, 0, 0, 0⟩)) _ _ := ws_setLcO rfl nd (i := 1) rfl rfl (own := [("_law_cell", 2)]) (wi_scr (we_var (pv 0))) (blkOk_by (N := ["_law_script", "_law_wide", "_law_cell"]) (sc := defScope s__law_begun) (by decide +kernel)) (fun s H C cl fp => wg_name (pg_name (i := 2) nd rfl (by first | exact Or.inl rfl | exact Or.inr rfl))) (fun s H C cl fp => wts_one (wt_cmp op_ge sim_cB (we_cb sim_abs (wa_cons (we_var (pv 2)) (wa_nil)) (fun a => pe_callB call_abs (by rfl) T.z_abs boot_absU a)) (we_op op_pow sim_I (we_int) (we_int)) (by rfl))) (fun s H C cl fp => we_op op_sub sim_I0 (we_cb sim_abs (wa_cons (we_var (pv 2)) (wa_nil)) (fun a => pe_callB call_abs (by rfl) T.z_abs boot_absU a)) (we_op op_pow sim_I (we_int) (we_int))) (by decide)
  have X2 : WF (cxD P w K mg base ["_law_script", "_law_wide", "_law_cell"] "_law_begun" s__law_begun f cd A outer s H E) K CA (wxD E) (dictVal ((defBody s__law_begun).getD 1 (.Pass ⟨0, 0, 0, 0⟩)) 1) _ _ := wf_lcB rfl nd (own := [("_law_cell", 2)]) (wi_scr (we_var (pv 0))) (blkOk_by (N := ["_law_script", "_law_wide", "_law_cell"]) (sc := defScope s__law_begun) (by decide +kernel)) (fun s H C cl fp => wg_name (pg_name (i := 2) nd rfl (by first | exact Or.inl rfl | exact Or.inr rfl))) (fun s H C cl fp => wts_nil) (fun s H C cl fp => we_op op_mod sim_I (we_cb sim_int (wa_cons (we_cb sim_abs (wa_cons (we_var (pv 2)) (wa_nil)) (fun a => pe_callB call_abs (by rfl) T.z_abs boot_absU a)) (wa_nil)) (fun a => pe_callTy call_int1 (by rfl) T.z_int boot_intU a)) (we_int)) (by decide)
  exact ⟨_, _, pss_cons X1.pe (pss_one (ps_ret (pe_disp (pps_cons pe_str (pv 1) (pps_cons pe_str X2.pe (pps_cons pe_str pe_int (pps_cons pe_str pe_int pps_nil)))) (by rfl) (by rfl) (by decide) (by decide)))), X1.sim, X2.sim⟩
theorem sc__law_mixed : FnScope ["_law_draw", "_law_turn", "_law_found", "_law_prime", "_law_blend", "_law_cell"] ["_law_draw"] (defScope s__law_mixed) := ⟨rfl, rfl, rfl, by decide +kernel, rfl, by decide +kernel, by decide +kernel⟩
theorem ok__law_mixed (F : Fun K "_law_mixed" "_law_mixed" s__law_mixed f fd) (T : Txt mg)  : FnG P w K mg base 1 f fd ["_law_draw"] (spD K CA 1 (bodyF 6 u_mixed)) := by
  have nd := (sc__law_mixed).nd
  refine okD F sc__law_mixed rfl rfl fun cd A outer s H E hg hr tk => ?_
  have Y : WSs (cxD P w K mg base ["_law_draw", "_law_turn", "_law_found", "_law_prime", "_law_blend", "_law_cell"] "_law_mixed" s__law_mixed f cd A outer s H E) K CA (wxD E) (defBody s__law_mixed) _ _ := wss_cons (ws_par (wa_cons (we_op (op_addU) sim_add (we_turn (pe_ix (ixU (hu_of hr)) (pv 0) pe_str (fun _ _ => rfl))) (we_int)) (wa_cons (we_int) (wa_nil))) (fun q => ps_par (i := 1) (j := 2) rfl nd rfl rfl (by decide) rfl rfl q (by rfl))) (wss_cons (ws_setTurn (we_var (pv 1)) (fun q => ps_dput (hu_of hr) (pv 0) pe_str q (by rfl))) (wss_cons (ws_for (wi_seq ((wf_lst (wa_cons (we_int) (wa_cons (we_int) (wa_cons (we_int) (wa_cons (we_int) (wa_nil)))))).we)) (wg_name (pg_name (i := 3) nd rfl (by first | exact Or.inl rfl | exact Or.inr rfl))) (wss_cons (ws_set (we_op (op_addU) sim_add (we_op op_mul sim_I (we_int) (we_var (pv 1))) (we_op op_fdiv sim_I (we_var (pv 3)) (we_int))) (fun q => ps_set (i := 4) nd rfl (by first | exact Or.inl rfl | exact Or.inr rfl) q)) (wss_cons (ws_for (wi_cells (pe_ix (ixU (hu_of hr)) (pv 0) pe_str (fun _ _ => rfl))) (wg_name (pg_name (i := 5) nd rfl (by first | exact Or.inl rfl | exact Or.inr rfl))) (wss_one (ws_set (we_op op_mod sim_I (we_cb sim_int (wa_cons (we_op (op_addU) sim_add (we_op (op_addU) sim_add (we_op op_mul sim_I (we_var (pv 4)) (we_int)) (we_var (pv 5))) (we_var (pv 1))) (wa_nil)) (fun a => pe_callTy call_int1 (by rfl) T.z_int boot_intU a)) (we_var (pv 3))) (fun q => ps_set (i := 4) nd rfl (by first | exact Or.inl rfl | exact Or.inr rfl) q))) (fun i g b => ps_for (passes_of rfl) rfl i g b)) (wss_one (ws_set (we_op (op_addU) sim_add (we_op op_mul sim_I (we_var (pv 2)) (we_int)) (we_op op_mod sim_I (we_cb sim_int (wa_cons (we_op op_pow sim_I (we_var (pv 4)) (we_int)) (wa_nil)) (fun a => pe_callTy call_int1 (by rfl) T.z_int boot_intU a)) (we_var (pv 3)))) (fun q => ps_set (i := 2) nd rfl (by first | exact Or.inl rfl | exact Or.inr rfl) q))))) (fun i g b => ps_for (passes_of rfl) rfl i g b)) (wss_one (ws_ret (we_var (pv 2))))))
  exact ⟨_, Y⟩
theorem sc__law_take : FnScope ["_law_draw", "_law_size", "_law_found"] ["_law_draw", "_law_size"] (defScope s__law_take) := ⟨rfl, rfl, rfl, by decide +kernel, rfl, by decide +kernel, by decide +kernel⟩
theorem ok__law_take (F : Fun K "_law_take" "_law_take" s__law_take f fd) (T : Txt mg) (D__law_mixed : Df P w K mg base CA "_law_mixed" 1 ["_law_draw"] fMixed) : FnG P w K mg base 2 f fd ["_law_draw", "_law_size"] (spD K CA 2 (bodyF 3 u_take)) := by
  have nd := (sc__law_take).nd
  refine okD F sc__law_take rfl rfl fun cd A outer s H E hg hr tk => ?_
  have Y : WSs (cxD P w K mg base ["_law_draw", "_law_size", "_law_found"] "_law_take" s__law_take f cd A outer s H E) K CA (wxD E) (defBody s__law_take) _ _ := wss_cons (ws_if (wt_cmp (op_eqU hr.units) sim_eq (we_rest (pe_ix (ixU (hu_of hr)) (pv 0) pe_str (fun _ _ => rfl))) (we_int) (by rfl)) (wss_one (ws_setRest (we_wide (we_call D__law_mixed hg (hr.mono (by decide)) tk (wa_cons (we_var (pv 0)) (wa_nil))) (fun q => pe_ifExp (pt_cmpR (op_neU hr.units) (pe_ix (ixU (hu_of hr)) (pv 0) pe_str (fun _ _ => rfl)) (pe_lst pa_nil) (by rfl)) (pe_bm PySem.F.plainAttrs_list PySem.F.slot_list_pop PySem.F.type_list_pop mt_popAt (pe_ix (ixU (hu_of hr)) (pv 0) pe_str (fun _ _ => rfl)) (pa_cons pe_int pa_nil)) q)) (fun q => ps_dput (hu_of hr) (pv 0) pe_str q (by rfl)))) (wss_nil)) (wss_cons (ws_set (we_op op_mod sim_I (we_cb sim_int (wa_cons (we_rest (pe_ix (ixU (hu_of hr)) (pv 0) pe_str (fun _ _ => rfl))) (wa_nil)) (fun a => pe_callTy call_int1 (by rfl) T.z_int boot_intU a)) (we_var (pv 1))) (fun q => ps_set (i := 2) nd rfl (by first | exact Or.inl rfl | exact Or.inr rfl) q)) (wss_cons (ws_setRest (we_op op_fdiv sim_I (we_rest (pe_ix (ixU (hu_of hr)) (pv 0) pe_str (fun _ _ => rfl))) (we_var (pv 1))) (fun q => ps_dput (hu_of hr) (pv 0) pe_str q (by rfl))) (wss_one (ws_ret (we_var (pv 2))))))
  exact ⟨_, Y⟩
theorem sc__law_pick : FnScope ["_law_draw", "_law_some"] ["_law_draw", "_law_some"] (defScope s__law_pick) := ⟨rfl, rfl, rfl, by decide +kernel, rfl, by decide +kernel, by decide +kernel⟩
theorem ok__law_pick (F : Fun K "_law_pick" "_law_pick" s__law_pick f fd) (T : Txt mg) (D__law_take : Df P w K mg base CA "_law_take" 2 ["_law_draw", "_law_size"] fTake) : FnG P w K mg base 3 f fd ["_law_draw", "_law_some"] (spD K CA 2 (bodyF 2 u_pick)) := by
  have nd := (sc__law_pick).nd
  refine okD F sc__law_pick rfl rfl fun cd A outer s H E hg hr tk => ?_
  have Y : WSs (cxD P w K mg base ["_law_draw", "_law_some"] "_law_pick" s__law_pick f cd A outer s H E) K CA (wxD E) (defBody s__law_pick) _ _ := wss_one (ws_ret (we_ix (ixU (hu_of hr)) sim_sub (we_var (pv 1)) (we_call D__law_take hg (hr.mono (by decide)) tk (wa_cons (we_var (pv 0)) (wa_cons (we_cb sim_len (wa_cons (we_var (pv 1)) (wa_nil)) (fun a => pe_callB call_lenU (by rfl) T.z_len boot_lenU a)) (wa_nil))))))
  exact ⟨_, Y⟩
theorem sc__law_scene_of : FnScope ["_law_stand_here", "_law_word", "_law_seat", "_law_noted", "_law_tags", "_law_base", "_law_gone", "_law_other", "_law_side", "_law_task", "_law_found"] ["_law_stand_here"] (defScope s__law_scene_of) := ⟨rfl, rfl, rfl, by decide +kernel, rfl, by decide +kernel, by decide +kernel⟩
theorem ok__law_scene_of (F : Fun K "_law_scene_of" "_law_scene_of" s__law_scene_of f fd) (T : Txt mg)  : FnG P w K mg base 1 f fd ["_law_stand_here"] (spD K CA 1 (bodyF 11 u__law_scene_of)) := by
  have nd := (sc__law_scene_of).nd
  refine okD F sc__law_scene_of rfl rfl fun cd A outer s H E hg hr tk => ?_
  have Y : WSs (cxD P w K mg base ["_law_stand_here", "_law_word", "_law_seat", "_law_noted", "_law_tags", "_law_base", "_law_gone", "_law_other", "_law_side", "_law_task", "_law_found"] "_law_scene_of" s__law_scene_of f cd A outer s H E) K CA (wxD E) (defBody s__law_scene_of) _ _ := wss_cons (ws_asg (we_var (pv 0)) (wg_tup rfl (wgs_cons (wg_tup rfl (wgs_cons (wg_name (pg_name (i := 1) nd rfl (by first | exact Or.inl rfl | exact Or.inr rfl))) (wgs_cons (wg_name (pg_name (i := 2) nd rfl (by first | exact Or.inl rfl | exact Or.inr rfl))) (wgs_cons (wg_name (pg_name (i := 3) nd rfl (by first | exact Or.inl rfl | exact Or.inr rfl))) (wgs_nil))))) (wgs_cons (wg_name (pg_name (i := 4) nd rfl (by first | exact Or.inl rfl | exact Or.inr rfl))) (wgs_cons (wg_name (pg_name (i := 5) nd rfl (by first | exact Or.inl rfl | exact Or.inr rfl))) (wgs_cons (wg_name (pg_name (i := 6) nd rfl (by first | exact Or.inl rfl | exact Or.inr rfl))) (wgs_cons (wg_name (pg_name (i := 7) nd rfl (by first | exact Or.inl rfl | exact Or.inr rfl))) (wgs_cons (wg_name (pg_name (i := 8) nd rfl (by first | exact Or.inl rfl | exact Or.inr rfl))) (wgs_cons (wg_name (pg_name (i := 9) nd rfl (by first | exact Or.inl rfl | exact Or.inr rfl))) (wgs_nil)))))))))) (wss_cons (ws_setO (wf_disp (wp_cons (we_str) (we_var (pv 1)) (wp_cons (we_str) (we_var (pv 2)) (wp_cons (we_str) (we_var (pv 3)) (wp_cons (we_str) (we_cb sim_listOf (wa_cons (we_var (pv 4)) (wa_nil)) (fun a => pe_callTy call_listOf (by rfl) T.z_list boot_listU a)) (wp_cons (we_str) (we_var (pv 5)) (wp_cons (we_str) (we_var (pv 6)) (wp_cons (we_str) (we_var (pv 7)) (wp_cons (we_str) (we_var (pv 8)) (wp_cons (we_str) (we_non) (wp_nil)))))))))) (by rfl) (by rfl) (by decide) (by decide)) (fun q => ps_set (i := 10) nd rfl (by first | exact Or.inl rfl | exact Or.inr rfl) q)) (wss_cons (ws_if (wt_cmp (op_neU hr.units) sim_ne (we_var (pv 9)) (we_tup (wa_nil)) (by rfl)) (wss_one (ws_dset (i := 10) (we_str) ((wf_disp (wp_cons (we_str) (we_ix (ixU (hu_of hr)) sim_sub (we_var (pv 9)) (we_int)) (wp_cons (we_str) (we_ix (ixU (hu_of hr)) sim_sub (we_var (pv 9)) (we_int)) (wp_cons (we_str) (we_ix (ixU (hu_of hr)) sim_sub (we_var (pv 9)) (we_int)) (wp_cons (we_str) (we_ix (ixU (hu_of hr)) sim_sub (we_var (pv 9)) (we_int)) (wp_cons (we_str) (we_ix (ixU (hu_of hr)) sim_sub (we_var (pv 9)) (we_int)) (wp_nil)))))) (by rfl) (by rfl) (by decide) (by decide)).we) (fun a b => ps_dput (hu_of hr) (pv 10) a b (by rfl)))) (wss_nil)) (wss_share 10 (wss_one (ws_ret (we_var (pv 10)))))))
  exact ⟨_, Y⟩
theorem sc__law_reads_wrong : FnScope ["_law_stand_here", "_law_scene", "_law_way", "_law_spot"] ["_law_stand_here"] (defScope s__law_reads_wrong) := ⟨rfl, rfl, rfl, by decide +kernel, rfl, by decide +kernel, by decide +kernel⟩
theorem ok__law_reads_wrong (F : Fun K "_law_reads_wrong" "_law_reads_wrong" s__law_reads_wrong f fd) (T : Txt mg) (D__law_scene_of : Df P w K mg base CA "_law_scene_of" 1 ["_law_stand_here"] fScene) : FnG P w K mg base 2 f fd ["_law_stand_here"] (spD K CA 1 (bodyF 4 u__law_reads_wrong)) := by
  have nd := (sc__law_reads_wrong).nd
  refine okD F sc__law_reads_wrong rfl rfl fun cd A outer s H E hg hr tk => ?_
  have Y : WSs (cxD P w K mg base ["_law_stand_here", "_law_scene", "_law_way", "_law_spot"] "_law_reads_wrong" s__law_reads_wrong f cd A outer s H E) K CA (wxD E) (defBody s__law_reads_wrong) _ _ := wss_cons (ws_set (we_call D__law_scene_of hg (hr.mono (by decide)) tk (wa_cons (we_var (pv 0)) (wa_nil))) (fun q => ps_set (i := 1) nd rfl (by first | exact Or.inl rfl | exact Or.inr rfl) q)) (wss_cons (ws_if (wt_cmp (op_eqU hr.units) sim_eq (we_ix (ixU (hu_of hr)) sim_sub (we_var (pv 1)) (we_str)) (we_str) (by rfl)) (wss_one (ws_ret (we_bl))) (wss_nil)) (wss_cons (ws_set (we_ifExp (wt_cmp (op_eqU hr.units) sim_eq (we_ix (ixU (hu_of hr)) sim_sub (we_var (pv 1)) (we_str)) (we_int) (by rfl)) ((wf_lst (wa_cons (we_int) (wa_cons (we_int) (wa_cons (we_int) (wa_nil))))).we) ((wf_lst (wa_cons (we_int) (wa_cons (we_int) (wa_nil)))).we)) (fun q => ps_set (i := 2) nd rfl (by first | exact Or.inl rfl | exact Or.inr rfl) q)) (wss_cons (ws_set (we_ifExp (wt_cmp (op_eqU hr.units) sim_eq (we_ix (ixU (hu_of hr)) sim_sub (we_var (pv 1)) (we_str)) (we_int) (by rfl)) (we_var (pv 2)) ((wf_lst (wa_cons (we_int) (wa_cons (we_int) (wa_nil)))).we)) (fun q => ps_set (i := 2) nd rfl (by first | exact Or.inl rfl | exact Or.inr rfl) q)) (wss_cons (ws_for (wi_seq (we_var (pv 2))) (wg_name (pg_name (i := 3) nd rfl (by first | exact Or.inl rfl | exact Or.inr rfl))) (wss_cons (ws_if ((ww_and (wt_cmp (op_eqU hr.units) sim_eq (we_var (pv 3)) (we_ix (ixU (hu_of hr)) sim_sub (we_var (pv 1)) (we_str)) (by rfl)) (ww_and1 (wt_cmp (op_neU hr.units) sim_ne (we_var (pv 3)) (we_int) (by rfl)))).wt) (wss_one (ws_ret (we_bl))) (wss_nil)) (wss_one (ws_if (wt_cmp (op_neU hr.units) sim_ne (we_ix (ixU (hu_of hr)) sim_sub (we_ix (ixU (hu_of hr)) sim_sub (we_var (pv 1)) (we_str)) (we_var (pv 3))) (we_int) (by rfl)) (wss_one (ws_ret (we_cmp (op_neU hr.units) sim_ne (we_ix (ixU (hu_of hr)) sim_sub (we_ix (ixU (hu_of hr)) sim_sub (we_var (pv 1)) (we_str)) (we_var (pv 3))) (we_int) (by rfl)))) (wss_nil)))) (fun i g b => ps_for (passes_of rfl) rfl i g b)) (wss_one (ws_ret (we_bl)))))))
  exact ⟨_, Y⟩
theorem sc_law : FnScope ["_law_script", "_law_draw", "_law_turn", "_law_word", "_law_seat", "_law_tags", "_law_base", "_law_gone", "_law_other", "_law_task", "_law_noted", "_law_stand_here", "_law_due"] ["_law_script"] (defScope s_law) := ⟨rfl, rfl, rfl, by decide +kernel, rfl, by decide +kernel, by decide +kernel⟩
theorem ok_law {fB : Addr} {fdB : FuncData} (F : Fun K "law" "law" s_law f fd) (T : Txt mg) (GB : FnG P w K mg base 1 fB fdB ["_law_script"] (spBegun K CA)) (mB : mg "_law_begun" = some (.ref fB)) (kB : PySem.W.keepIn K (.ref fB) = true) (bB : Binds K fdB ["_law_script"] []) (D__law_take : Df P w K mg base CA "_law_take" 2 ["_law_draw", "_law_size"] fTake) (D__law_pick : Df P w K mg base CA "_law_pick" 3 ["_law_draw", "_law_some"] fPick) (D__law_reads_wrong : Df P w K mg base CA "_law_reads_wrong" 2 ["_law_stand_here"] fWrong) (D_is_wrong : Df P w K mg base CA "is_wrong" 5 ["stand"] fWrong)
    (hu : LawD 13 u_law) : FnG P w K mg base 6 f fd ["_law_script"] (spLawD K CA) := by
  have nd := sc_law.nd
  refine okLaw F sc_law rfl (by decide) hu fun cd A outer s H E hg hr tk => ?_
  have Y : WSs (cxD P w K mg base ["_law_script", "_law_draw", "_law_turn", "_law_word", "_law_seat", "_law_tags", "_law_base", "_law_gone", "_law_other", "_law_task", "_law_noted", "_law_stand_here", "_law_due"] "law" s_law f cd A outer s H E) K CA (wxD E) ((defBody s_law).drop 1) _ _ := wss_cons (ws_for (wi_rng1 (wa_cons (we_op (op_addU) sim_add (we_int) (we_cb sim_min (wa_cons (we_cb sim_len (wa_cons (we_var (pv 0)) (wa_nil)) (fun a => pe_callB call_lenU (by rfl) T.z_len boot_lenU a)) (wa_cons (we_int) (wa_nil))) (fun a => pe_callB call_minU (by rfl) T.z_min boot_minU a))) (wa_nil)) (fun a => pi_range1 (by rfl) T.z_range a)) (wg_name (pg_name (i := 2) nd rfl (by first | exact Or.inl rfl | exact Or.inr rfl))) (wss_cons (ws_par (wa_cons (we_call D__law_pick hg (hr.mono (by decide)) tk (wa_cons (we_var (pv 1)) (wa_cons ((wf_lst (wa_cons (we_str) (wa_cons (we_str) (wa_cons (we_str) (wa_nil))))).we) (wa_nil)))) (wa_cons (we_op (op_addU) sim_add (we_int) (we_call D__law_take hg (hr.mono (by decide)) tk (wa_cons (we_var (pv 1)) (wa_cons (we_int) (wa_nil))))) (wa_nil))) (fun q => ps_par (i := 3) (j := 4) rfl nd rfl rfl (by decide) rfl rfl q (by rfl))) (wss_cons (ws_set (we_tup (wa_cons (we_op (op_addU) sim_add (we_int) (we_call D__law_take hg (hr.mono (by decide)) tk (wa_cons (we_var (pv 1)) (wa_cons (we_int) (wa_nil))))) (wa_cons (we_call D__law_take hg (hr.mono (by decide)) tk (wa_cons (we_var (pv 1)) (wa_cons (we_int) (wa_nil)))) (wa_cons (we_call D__law_take hg (hr.mono (by decide)) tk (wa_cons (we_var (pv 1)) (wa_cons (we_int) (wa_nil)))) (wa_nil))))) (fun q => ps_set (i := 5) nd rfl (by first | exact Or.inl rfl | exact Or.inr rfl) q)) (wss_cons (ws_par3 (wa_cons (we_call D__law_take hg (hr.mono (by decide)) tk (wa_cons (we_var (pv 1)) (wa_cons (we_int) (wa_nil)))) (wa_cons (we_call D__law_take hg (hr.mono (by decide)) tk (wa_cons (we_var (pv 1)) (wa_cons (we_int) (wa_nil)))) (wa_cons (we_call D__law_take hg (hr.mono (by decide)) tk (wa_cons (we_var (pv 1)) (wa_cons (we_int) (wa_nil)))) (wa_nil)))) (fun q => ps_par3 (i := 6) (j := 7) (l := 8) rfl nd rfl rfl rfl (by decide) (by decide) (by decide) rfl rfl rfl q (by rfl))) (wss_cons (ws_set (we_call D__law_pick hg (hr.mono (by decide)) tk (wa_cons (we_var (pv 1)) (wa_cons ((wf_lst (wa_cons (we_tup (wa_nil)) (wa_cons (we_tup (wa_cons (we_int) (wa_cons (we_neg (we_int)) (wa_cons (we_bl) (wa_cons (we_bl) (wa_cons (we_bl) (wa_nil))))))) (wa_cons (we_tup (wa_cons (we_int) (wa_cons (we_int) (wa_cons (we_bl) (wa_cons (we_bl) (wa_cons (we_bl) (wa_nil))))))) (wa_nil))))).we) (wa_nil)))) (fun q => ps_set (i := 9) nd rfl (by first | exact Or.inl rfl | exact Or.inr rfl) q)) (wss_cons (ws_set (we_and (we_cmp (op_eqU hr.units) sim_eq (we_var (pv 3)) (we_str) (by rfl)) (we_and (we_cmp (op_eqU hr.units) sim_eq (we_var (pv 4)) (we_int) (by rfl)) (we_one (we_cmp (op_eqU hr.units) sim_eq (we_call D__law_take hg (hr.mono (by decide)) tk (wa_cons (we_var (pv 1)) (wa_cons (we_int) (wa_nil)))) (we_int) (by rfl))))) (fun q => ps_set (i := 10) nd rfl (by first | exact Or.inl rfl | exact Or.inr rfl) q)) (wss_cons (ws_set (we_tup (wa_cons (we_tup (wa_cons (we_var (pv 3)) (wa_cons (we_var (pv 4)) (wa_cons (we_var (pv 10)) (wa_nil))))) (wa_cons (we_var (pv 5)) (wa_cons (we_var (pv 6)) (wa_cons (we_var (pv 7)) (wa_cons (we_var (pv 8)) (wa_cons (we_cmp (op_eqU hr.units) sim_eq (we_call D__law_take hg (hr.mono (by decide)) tk (wa_cons (we_var (pv 1)) (wa_cons (we_int) (wa_nil)))) (we_int) (by rfl)) (wa_cons (we_var (pv 9)) (wa_nil))))))))) (fun q => ps_set (i := 11) nd rfl (by first | exact Or.inl rfl | exact Or.inr rfl) q)) (wss_cons (ws_set (we_call D__law_reads_wrong hg (hr.mono (by decide)) tk (wa_cons (we_var (pv 11)) (wa_nil))) (fun q => ps_set (i := 12) nd rfl (by first | exact Or.inl rfl | exact Or.inr rfl) q)) (wss_one (ws_if (wt_cmp (op_neU hr.units) sim_ne (we_cb sim_show (wa_cons ((wf_lst (wa_cons (we_call D_is_wrong hg (hr.mono (by decide)) tk (wa_cons (we_var (pv 11)) (wa_nil))) (wa_cons (we_callKw D_is_wrong hg (hr.mono (by decide)) tk (wk_cons (we_var (pv 11)) (wk_nil))) (wa_nil)))).we) (wa_nil)) (fun a => pe_callB (call_show hg hr.units) (by rfl) T.z_repr boot_reprU a)) (we_cb sim_show (wa_cons ((wf_lst (wa_cons (we_var (pv 12)) (wa_cons (we_var (pv 12)) (wa_nil)))).we) (wa_nil)) (fun a => pe_callB (call_show hg hr.units) (by rfl) T.z_repr boot_reprU a)) (by rfl)) (wss_one (ws_ret (we_bl))) (wss_nil)))))))))) (fun i g b => ps_for (passes_of rfl) rfl i g b)) (wss_one (ws_ret (we_bl)))
  have Y0 : PS (cxD P w K mg base ["_law_script", "_law_draw", "_law_turn", "_law_word", "_law_seat", "_law_tags", "_law_base", "_law_gone", "_law_other", "_law_task", "_law_noted", "_law_stand_here", "_law_due"] "law" s_law f cd A outer s H E) ((defBody s_law).getD 0 (.Pass ⟨0, 0, 0, 0⟩)) _ := ps_set (i := 1) nd rfl (by first | exact Or.inl rfl | exact Or.inr rfl) (pe_callG (W := wxD E) GB mB kB bB hg (hr.mono (by decide)) tk (pa_cons (pv 0) pa_nil))
  exact ⟨_, _, _, rfl, Y0, Y⟩
theorem all_mk {l : PySem.W.OpenLaw} {h : Heap} {fa f0 f1 f2 f3 f4 f5 f6 f7 f8 f9 f10 f11 f12 f13 : Addr} (X : K.In h) (G : h.Ns mainGlobals mg) (hfa : mg "law" = some (.ref fa))
    {od0 an0 od1 an1 od2 an2 od3 an3 od4 an4 od5 an5 od6 an6 od7 an7 od8 an8 od9 an9 od10 an10 od11 an11 od12 an12 od13 an13 : Option Addr} {sl0 sl1 sl2 sl3 sl4 sl5 sl6 sl7 sl8 sl9 sl10 sl11 sl12 sl13 : Array (Option Value)} {oc0 kV0 dc0 pm0 cd0 ct0 oc1 kV1 dc1 pm1 cd1 ct1 oc2 kV2 dc2 pm2 cd2 ct2 oc3 kV3 dc3 pm3 cd3 ct3 oc4 kV4 dc4 pm4 cd4 ct4 oc5 kV5 dc5 pm5 cd5 ct5 oc6 kV6 dc6 pm6 cd6 ct6 oc7 kV7 dc7 pm7 cd7 ct7 oc8 kV8 dc8 pm8 cd8 ct8 oc9 kV9 dc9 pm9 cd9 ct9 oc10 kV10 dc10 pm10 cd10 ct10 oc11 kV11 dc11 pm11 cd11 ct11 oc12 kV12 dc12 pm12 cd12 ct12 oc13 kV13 dc13 pm13 cd13 ct13 : Value}
    (a0 : PySem.W.nsIn K mainGlobals "is_number" = some (some (.ref f0))) (l0 : K.lookup f0 = some ⟨oc0, od0, .func (PySem.W.fnOf "is_number" "is_number" (defArgs s_is_number) (defBody s_is_number) (defScope s_is_number) .none kV0 dc0 pm0 an0 cd0 ct0), sl0⟩) (c0 : PySem.W.codeIn K cd0 "is_number" = true) (k0 : PySem.W.keepIn K (.ref f0) = true)
    (a1 : PySem.W.nsIn K mainGlobals "is_one_of" = some (some (.ref f1))) (l1 : K.lookup f1 = some ⟨oc1, od1, .func (PySem.W.fnOf "is_one_of" "is_one_of" (defArgs s_is_one_of) (defBody s_is_one_of) (defScope s_is_one_of) .none kV1 dc1 pm1 an1 cd1 ct1), sl1⟩) (c1 : PySem.W.codeIn K cd1 "is_one_of" = true) (k1 : PySem.W.keepIn K (.ref f1) = true)
    (a2 : PySem.W.nsIn K mainGlobals "is_reader" = some (some (.ref f2))) (l2 : K.lookup f2 = some ⟨oc2, od2, .func (PySem.W.fnOf "is_reader" "is_reader" (defArgs s_is_reader) (defBody s_is_reader) (defScope s_is_reader) .none kV2 dc2 pm2 an2 cd2 ct2), sl2⟩) (c2 : PySem.W.codeIn K cd2 "is_reader" = true) (k2 : PySem.W.keepIn K (.ref f2) = true)
    (a3 : PySem.W.nsIn K mainGlobals "is_job" = some (some (.ref f3))) (l3 : K.lookup f3 = some ⟨oc3, od3, .func (PySem.W.fnOf "is_job" "is_job" (defArgs s_is_job) (defBody s_is_job) (defScope s_is_job) .none kV3 dc3 pm3 an3 cd3 ct3), sl3⟩) (c3 : PySem.W.codeIn K cd3 "is_job" = true) (k3 : PySem.W.keepIn K (.ref f3) = true)
    (a4 : PySem.W.nsIn K mainGlobals "is_stand" = some (some (.ref f4))) (l4 : K.lookup f4 = some ⟨oc4, od4, .func (PySem.W.fnOf "is_stand" "is_stand" (defArgs s_is_stand) (defBody s_is_stand) (defScope s_is_stand) .none kV4 dc4 pm4 an4 cd4 ct4), sl4⟩) (c4 : PySem.W.codeIn K cd4 "is_stand" = true) (k4 : PySem.W.keepIn K (.ref f4) = true)
    (a5 : PySem.W.nsIn K mainGlobals "reads_wrong" = some (some (.ref f5))) (l5 : K.lookup f5 = some ⟨oc5, od5, .func (PySem.W.fnOf "reads_wrong" "reads_wrong" (defArgs s_reads_wrong) (defBody s_reads_wrong) (defScope s_reads_wrong) .none kV5 dc5 pm5 an5 cd5 ct5), sl5⟩) (c5 : PySem.W.codeIn K cd5 "reads_wrong" = true) (k5 : PySem.W.keepIn K (.ref f5) = true)
    (a6 : PySem.W.nsIn K mainGlobals "is_wrong" = some (some (.ref f6))) (l6 : K.lookup f6 = some ⟨oc6, od6, .func (PySem.W.fnOf "is_wrong" "is_wrong" (defArgs s_is_wrong) (defBody s_is_wrong) (defScope s_is_wrong) .none kV6 dc6 pm6 an6 cd6 ct6), sl6⟩) (c6 : PySem.W.codeIn K cd6 "is_wrong" = true) (k6 : PySem.W.keepIn K (.ref f6) = true)
    (a7 : PySem.W.nsIn K mainGlobals "_law_begun" = some (some (.ref f7))) (l7 : K.lookup f7 = some ⟨oc7, od7, .func (PySem.W.fnOf "_law_begun" "_law_begun" (defArgs s__law_begun) (defBody s__law_begun) (defScope s__law_begun) .none kV7 dc7 pm7 an7 cd7 ct7), sl7⟩) (c7 : PySem.W.codeIn K cd7 "_law_begun" = true) (k7 : PySem.W.keepIn K (.ref f7) = true)
    (a8 : PySem.W.nsIn K mainGlobals "_law_mixed" = some (some (.ref f8))) (l8 : K.lookup f8 = some ⟨oc8, od8, .func (PySem.W.fnOf "_law_mixed" "_law_mixed" (defArgs s__law_mixed) (defBody s__law_mixed) (defScope s__law_mixed) .none kV8 dc8 pm8 an8 cd8 ct8), sl8⟩) (c8 : PySem.W.codeIn K cd8 "_law_mixed" = true) (k8 : PySem.W.keepIn K (.ref f8) = true)
    (a9 : PySem.W.nsIn K mainGlobals "_law_take" = some (some (.ref f9))) (l9 : K.lookup f9 = some ⟨oc9, od9, .func (PySem.W.fnOf "_law_take" "_law_take" (defArgs s__law_take) (defBody s__law_take) (defScope s__law_take) .none kV9 dc9 pm9 an9 cd9 ct9), sl9⟩) (c9 : PySem.W.codeIn K cd9 "_law_take" = true) (k9 : PySem.W.keepIn K (.ref f9) = true)
    (a10 : PySem.W.nsIn K mainGlobals "_law_pick" = some (some (.ref f10))) (l10 : K.lookup f10 = some ⟨oc10, od10, .func (PySem.W.fnOf "_law_pick" "_law_pick" (defArgs s__law_pick) (defBody s__law_pick) (defScope s__law_pick) .none kV10 dc10 pm10 an10 cd10 ct10), sl10⟩) (c10 : PySem.W.codeIn K cd10 "_law_pick" = true) (k10 : PySem.W.keepIn K (.ref f10) = true)
    (a11 : PySem.W.nsIn K mainGlobals "_law_scene_of" = some (some (.ref f11))) (l11 : K.lookup f11 = some ⟨oc11, od11, .func (PySem.W.fnOf "_law_scene_of" "_law_scene_of" (defArgs s__law_scene_of) (defBody s__law_scene_of) (defScope s__law_scene_of) .none kV11 dc11 pm11 an11 cd11 ct11), sl11⟩) (c11 : PySem.W.codeIn K cd11 "_law_scene_of" = true) (k11 : PySem.W.keepIn K (.ref f11) = true)
    (a12 : PySem.W.nsIn K mainGlobals "_law_reads_wrong" = some (some (.ref f12))) (l12 : K.lookup f12 = some ⟨oc12, od12, .func (PySem.W.fnOf "_law_reads_wrong" "_law_reads_wrong" (defArgs s__law_reads_wrong) (defBody s__law_reads_wrong) (defScope s__law_reads_wrong) .none kV12 dc12 pm12 an12 cd12 ct12), sl12⟩) (c12 : PySem.W.codeIn K cd12 "_law_reads_wrong" = true) (k12 : PySem.W.keepIn K (.ref f12) = true)
    (a13 : PySem.W.nsIn K mainGlobals "law" = some (some (.ref f13))) (l13 : K.lookup f13 = some ⟨oc13, od13, .func (PySem.W.fnOf "law" "law" (defArgs s_law) (defBody s_law) (defScope s_law) .none kV13 dc13 pm13 an13 cd13 ct13), sl13⟩) (c13 : PySem.W.codeIn K cd13 "law" = true) (k13 : PySem.W.keepIn K (.ref f13) = true)
    (z_isinstance : PySem.W.nsIn K mainGlobals "isinstance" = some none) (z_int : PySem.W.nsIn K mainGlobals "int" = some none) (z_bool : PySem.W.nsIn K mainGlobals "bool" = some none) (z_tuple : PySem.W.nsIn K mainGlobals "tuple" = some none) (z_len : PySem.W.nsIn K mainGlobals "len" = some none) (z_str : PySem.W.nsIn K mainGlobals "str" = some none) (z_abs : PySem.W.nsIn K mainGlobals "abs" = some none) (z_list : PySem.W.nsIn K mainGlobals "list" = some none) (z_range : PySem.W.nsIn K mainGlobals "range" = some none) (z_min : PySem.W.nsIn K mainGlobals "min" = some none) (z_repr : PySem.W.nsIn K mainGlobals "repr" = some none)
    (hu : LawD 13 u_law) : ∃ fd : FuncData, (∀ (s : Shared) (v : Value), BindsTo s fd ⟨[v], []⟩ [("_law_script", v)]) ∧ ∀ base : Heap, K.In base → base.Ns mainGlobals mg → FnG l.prog w K mg base 6 fa fd ["_law_script"] (spLawD K CA) := by
  have e := hfa.symm.trans (PySem.W.mg_of X G a13)
  cases e
  have T : Txt mg := ⟨PySem.W.mg_none_of X G z_isinstance, PySem.W.mg_none_of X G z_int, PySem.W.mg_none_of X G z_bool, PySem.W.mg_none_of X G z_tuple, PySem.W.mg_none_of X G z_len, PySem.W.mg_none_of X G z_str, PySem.W.mg_none_of X G z_abs, PySem.W.mg_none_of X G z_list, PySem.W.mg_none_of X G z_range, PySem.W.mg_none_of X G z_min, PySem.W.mg_none_of X G z_repr⟩
  refine ⟨PySem.W.fnOf "law" "law" (defArgs s_law) (defBody s_law) (defScope s_law) .none kV13 dc13 pm13 an13 cd13 ct13, fun s v => .of_eq rfl, fun base _ _ => ?_⟩
  have F0 := fun_mk (st := s_is_number) l0 c0 k0
  have D0 : Df l.prog w K mg base CA "is_number" 1 ["thing"] fNum := Df.mk' F0 (FnG.imp rfl (ok_is_number F0 T ) num_ok) (PySem.W.mg_of X G a0) rfl (fun _ _ _ _ _ _ us hl => match us, hl with | [_], _ => rfl) (fun _ _ _ _ _ _ us hl => match us, hl with | [_], _ => rfl)
  have F1 := fun_mk (st := s_is_one_of) l1 c1 k1
  have D1 : Df l.prog w K mg base CA "is_one_of" 2 ["thing", "numbers"] fOne := Df.mk' F1 (FnG.imp rfl (ok_is_one_of F1 T D0) one_ok) (PySem.W.mg_of X G a1) rfl (fun _ _ _ _ _ _ us hl => match us, hl with | [_, _], _ => rfl) (fun _ _ _ _ _ _ us hl => match us, hl with | [_, _], _ => rfl)
  have F2 := fun_mk (st := s_is_reader) l2 c2 k2
  have D2 : Df l.prog w K mg base CA "is_reader" 3 ["thing"] fReader := Df.mk' F2 (FnG.imp rfl (ok_is_reader F2 T D1) reader_ok) (PySem.W.mg_of X G a2) rfl (fun _ _ _ _ _ _ us hl => match us, hl with | [_], _ => rfl) (fun _ _ _ _ _ _ us hl => match us, hl with | [_], _ => rfl)
  have F3 := fun_mk (st := s_is_job) l3 c3 k3
  have D3 : Df l.prog w K mg base CA "is_job" 3 ["thing"] fJob := Df.mk' F3 (FnG.imp rfl (ok_is_job F3 T D1) job_ok) (PySem.W.mg_of X G a3) rfl (fun _ _ _ _ _ _ us hl => match us, hl with | [_], _ => rfl) (fun _ _ _ _ _ _ us hl => match us, hl with | [_], _ => rfl)
  have F4 := fun_mk (st := s_is_stand) l4 c4 k4
  have D4 : Df l.prog w K mg base CA "is_stand" 4 ["thing"] fStand := Df.mk' F4 (FnG.imp rfl (ok_is_stand F4 T D2 D1 D3) stand_ok) (PySem.W.mg_of X G a4) rfl (fun _ _ _ _ _ _ us hl => match us, hl with | [_], _ => rfl) (fun _ _ _ _ _ _ us hl => match us, hl with | [_], _ => rfl)
  have F5 := fun_mk (st := s_reads_wrong) l5 c5 k5
  have D5 : Df l.prog w K mg base CA "reads_wrong" 1 ["stand"] fWrong := Df.mk' F5 (FnG.imp rfl (ok_reads_wrong F5 T ) reads_ok) (PySem.W.mg_of X G a5) rfl (fun _ _ _ _ _ _ us hl => match us, hl with | [_], _ => rfl) (fun _ _ _ _ _ _ us hl => match us, hl with | [_], _ => rfl)
  have F6 := fun_mk (st := s_is_wrong) l6 c6 k6
  have D6 : Df l.prog w K mg base CA "is_wrong" 5 ["stand"] fWrong := Df.mk' F6 (FnG.imp rfl (ok_is_wrong F6 T D4 D5) wrong_ok) (PySem.W.mg_of X G a6) rfl (fun _ _ _ _ _ _ us hl => match us, hl with | [_], _ => rfl) (fun _ _ _ _ _ _ us hl => match us, hl with | [_], _ => rfl)
  have F7 := fun_mk (st := s__law_begun) l7 c7 k7
  have b7 := F7.binds (ps := ["_law_script"]) (fun _ _ _ _ _ _ us hl => match us, hl with | [_], _ => rfl)
  have G7 : FnG l.prog w K mg base 1 f7 _ ["_law_script"] (spBegun K CA) := ok__law_begun F7 T
  have F8 := fun_mk (st := s__law_mixed) l8 c8 k8
  have D8 : Df l.prog w K mg base CA "_law_mixed" 1 ["_law_draw"] fMixed := Df.mk' F8 (FnG.imp rfl (ok__law_mixed F8 T ) mixed_ok) (PySem.W.mg_of X G a8) rfl (fun _ _ _ _ _ _ us hl => match us, hl with | [_], _ => rfl) (fun _ _ _ _ _ _ us hl => match us, hl with | [_], _ => rfl)
  have F9 := fun_mk (st := s__law_take) l9 c9 k9
  have D9 : Df l.prog w K mg base CA "_law_take" 2 ["_law_draw", "_law_size"] fTake := Df.mk' F9 (FnG.imp rfl (ok__law_take F9 T D8) take_ok) (PySem.W.mg_of X G a9) rfl (fun _ _ _ _ _ _ us hl => match us, hl with | [_, _], _ => rfl) (fun _ _ _ _ _ _ us hl => match us, hl with | [_, _], _ => rfl)
  have F10 := fun_mk (st := s__law_pick) l10 c10 k10
  have D10 : Df l.prog w K mg base CA "_law_pick" 3 ["_law_draw", "_law_some"] fPick := Df.mk' F10 (FnG.imp rfl (ok__law_pick F10 T D9) pick_ok) (PySem.W.mg_of X G a10) rfl (fun _ _ _ _ _ _ us hl => match us, hl with | [_, _], _ => rfl) (fun _ _ _ _ _ _ us hl => match us, hl with | [_, _], _ => rfl)
  have F11 := fun_mk (st := s__law_scene_of) l11 c11 k11
  have D11 : Df l.prog w K mg base CA "_law_scene_of" 1 ["_law_stand_here"] fScene := Df.mk' F11 (FnG.imp rfl (ok__law_scene_of F11 T ) scene_ok) (PySem.W.mg_of X G a11) rfl (fun _ _ _ _ _ _ us hl => match us, hl with | [_], _ => rfl) (fun _ _ _ _ _ _ us hl => match us, hl with | [_], _ => rfl)
  have F12 := fun_mk (st := s__law_reads_wrong) l12 c12 k12
  have D12 : Df l.prog w K mg base CA "_law_reads_wrong" 2 ["_law_stand_here"] fWrong := Df.mk' F12 (FnG.imp rfl (ok__law_reads_wrong F12 T D11) lreads_ok) (PySem.W.mg_of X G a12) rfl (fun _ _ _ _ _ _ us hl => match us, hl with | [_], _ => rfl) (fun _ _ _ _ _ _ us hl => match us, hl with | [_], _ => rfl)
  have F13 := fun_mk (st := s_law) l13 c13 k13
  exact ok_law F13 T G7 (PySem.W.mg_of X G a7) k7 b7 D9 D10 D12 D6 hu
end
end W_whilemerged_k33_wrong_stands
open PySem PySem.W PyProof.Rows in
set_option maxRecDepth 100000 in
set_option maxHeartbeats 0 in
theorem PySem.Challenge.cw_whilemerged_k33_wrong_stands_holds : PySem.Challenge.rw_whilemerged_k33_wrong_stands.Holds := by
  w_on; o_law; k_head; (case hw => w_witness2)
  k_fill
  refine WM.walkG (l := PySem.Challenge.rw_whilemerged_k33_wrong_stands) (k := 6) (CA := fun _ _ => 0) rfl rfl ⟨rfl, by decide, by decide⟩ (fun w h Y => PySem.W.kIn_of Y) ?F
  case F =>
    intro w mg fa h KX G hmg
    refine' W_whilemerged_k33_wrong_stands.all_mk KX G hmg ?a0 ?l0 ?c0 ?k0 ?a1 ?l1 ?c1 ?k1 ?a2 ?l2 ?c2 ?k2 ?a3 ?l3 ?c3 ?k3 ?a4 ?l4 ?c4 ?k4 ?a5 ?l5 ?c5 ?k5 ?a6 ?l6 ?c6 ?k6 ?a7 ?l7 ?c7 ?k7 ?a8 ?l8 ?c8 ?k8 ?a9 ?l9 ?c9 ?k9 ?a10 ?l10 ?c10 ?k10 ?a11 ?l11 ?c11 ?k11 ?a12 ?l12 ?c12 ?k12 ?a13 ?l13 ?c13 ?k13 ?z_isinstance ?z_int ?z_bool ?z_tuple ?z_len ?z_str ?z_abs ?z_list ?z_range ?z_min ?z_repr W_whilemerged_k33_wrong_stands.law_ok
    (case a0 => k_is)
    (case l0 => k_is)
    (case c0 => k_is)
    (case k0 => k_is)
    (case a1 => k_is)
    (case l1 => k_is)
    (case c1 => k_is)
    (case k1 => k_is)
    (case a2 => k_is)
    (case l2 => k_is)
    (case c2 => k_is)
    (case k2 => k_is)
    (case a3 => k_is)
    (case l3 => k_is)
    (case c3 => k_is)
    (case k3 => k_is)
    (case a4 => k_is)
    (case l4 => k_is)
    (case c4 => k_is)
    (case k4 => k_is)
    (case a5 => k_is)
    (case l5 => k_is)
    (case c5 => k_is)
    (case k5 => k_is)
    (case a6 => k_is)
    (case l6 => k_is)
    (case c6 => k_is)
    (case k6 => k_is)
    (case a7 => k_is)
    (case l7 => k_is)
    (case c7 => k_is)
    (case k7 => k_is)
    (case a8 => k_is)
    (case l8 => k_is)
    (case c8 => k_is)
    (case k8 => k_is)
    (case a9 => k_is)
    (case l9 => k_is)
    (case c9 => k_is)
    (case k9 => k_is)
    (case a10 => k_is)
    (case l10 => k_is)
    (case c10 => k_is)
    (case k10 => k_is)
    (case a11 => k_is)
    (case l11 => k_is)
    (case c11 => k_is)
    (case k11 => k_is)
    (case a12 => k_is)
    (case l12 => k_is)
    (case c12 => k_is)
    (case k12 => k_is)
    (case a13 => k_is)
    (case l13 => k_is)
    (case c13 => k_is)
    (case k13 => k_is)
    (case z_isinstance => k_is)
    (case z_int => k_is)
    (case z_bool => k_is)
    (case z_tuple => k_is)
    (case z_len => k_is)
    (case z_str => k_is)
    (case z_abs => k_is)
    (case z_list => k_is)
    (case z_range => k_is)
    (case z_min => k_is)
    (case z_repr => k_is)
