import PyProof.Rows.All
import Wide.All
import OpenK.AllK
import Wide.FinOn
import HandS.ForMost
import HandS.ForExc
import HandS.IsInst
import HandS.WordsExc
import HandS.Ends
import HandS.Style
import HandS.DictComp
import HandS.Finally
import HandS.TupAny
import HandS.Property
import HandS.MakeKwOnly
import HandS.SortInts
import HandS.WordsDict
import HandS.OwnEq
import PyProof.InstNe
import HandS.Strs
import HandS.SetFor
import PySem.Challenge.RW_whilemerged_k02_books_made
set_option Elab.async false
set_option linter.all false
set_option maxRecDepth 100000
set_option maxHeartbeats 6400000
namespace CM
open PySem PySem.Spec PyProof.Rows L2

/-! ### data: trees that never change, and names (ref) of objects that may -/
inductive D where
  | non | bl (b : Bool) | int (i : Int) | str (s : Str)
  | lst (xs : List D) | tup (xs : List D) | dct (kvs : List (Key × D))
  | obj (c : Nat) (fs : List (Str × D))
  | scr (ns : List Int) | ref (k : Nat) | ty (n : String) | cls (c : Nat)
  deriving Inhabited
/-- an object that may change -/
inductive MO where
  | lst (xs : List D) | dct (kvs : List (Key × D)) | lck (kvs : List (Key × D)) | lkl (xs : List D) | obj (c : Nat) (fs : List (Str × D))
  | dctT (kvs : List (List Key × D))
  deriving Inhabited
/-- not walked at the moment -/
def NotLck : MO → Prop
  | .lck _ => False
  | .lkl _ => False
  | _ => True
abbrev Lckd (o : MO) : Prop := NotLck o → False
/-- the objects that may change, by name; nx: the next name -/
structure CH where
  nx : Nat
  ob : Nat → Option MO
def CH.new (h : CH) (o : MO) : CH := ⟨h.nx + 1, fun j => if j = h.nx then some o else h.ob j⟩
def CH.put (h : CH) (k : Nat) (o : MO) : CH := ⟨h.nx, fun j => if j = k then some o else h.ob j⟩
def CH.del (h : CH) (k : Nat) : CH := ⟨h.nx, fun j => if j = k then none else h.ob j⟩
def CH.emp : CH := ⟨0, fun _ => none⟩
/-- how a computation ends -/
inductive R (α : Type) where
  | ok (a : α) (h : CH)
  | ex (c : Nat) (fs : List (Str × D)) (h : CH)
  | no
def R.bind {α β : Type} (r : R α) (f : α → CH → R β) : R β := match r with
  | .ok a h => f a h
  | .ex c fs h => .ex c fs h
  | .no => .no
/-- no exception may leave -/
def R.calm {α β : Type} (r : R α) (f : α → CH → R β) : R β := match r with
  | .ok a h => f a h
  | .ex _ _ _ => .no
  | .no => .no

/-- where the named objects stand; and what is being made -/
structure Mp where
  f : Nat → Addr
  z : List Addr
instance : CoeFun Mp (fun _ => Nat → Addr) := ⟨Mp.f⟩
def Live (m : Mp) (h : CH) (a : Addr) : Prop := (∃ k o, h.ob k = some o ∧ m k = a) ∨ a ∈ m.z
/-- an object that is locked is the object -/
def core : HO → HO
  | .frz _ (.dK kvs) => .dK kvs
  | .frz _ (.dT kvs) => .dT kvs
  | o => o
theorem core_lst {o : HO} {xs : List V} (h : core o = .lst xs) : o = .lst xs := by
  cases o with
  | frz ob u => cases u <;> simp [core] at h
  | _ => first | exact h | simp [core] at h
theorem core_tup {o : HO} {xs : List V} (h : core o = .tup xs) : o = .tup xs := by
  cases o with
  | frz ob u => cases u <;> simp [core] at h
  | _ => first | exact h | simp [core] at h
theorem core_ins {o : HO} {c d : Addr} {fs : List (Str × V)} (h : core o = .ins c d fs) : o = .ins c d fs := by
  cases o with
  | frz ob u => cases u <;> simp [core] at h
  | _ => first | exact h | simp [core] at h
theorem core_xd {o : HO} {fs : List (Str × V)} (h : core o = .xd fs) : o = .xd fs := by
  cases o with
  | frz ob u => cases u <;> simp [core] at h
  | _ => first | exact h | simp [core] at h
theorem core_dK {o : HO} {kvs : List (Key × V)} (h : core o = .dK kvs) : o = .dK kvs ∨ ∃ ob, o = .frz ob (.dK kvs) := by
  cases o with
  | frz ob u => cases u <;> simp [core] at h <;> (subst h; exact .inr ⟨ob, rfl⟩)
  | dK k => simp [core] at h; exact .inl (by rw [h])
  | _ => simp [core] at h
theorem core_frzL {o : HO} {ob : Obj} {xs : List V} (h : core o = .frz ob (.lst xs)) : o = .frz ob (.lst xs) := by
  cases o with
  | frz ob' u => cases u <;> first | (simp [core] at h; done) | (simp only [core] at h; exact h)
  | _ => first | exact h | simp [core] at h

/-- what stands outside of the named objects is kept, or locked -/
def Lk (o o' : HO) : Prop := o' = o ∨ ∃ ob kvs, o = .dK kvs ∧ o' = .frz ob o
theorem Lk.core {o o' : HO} (l : Lk o o') : core o' = core o := by
  rcases l with rfl | ⟨ob, kvs, rfl, rfl⟩ <;> rfl
theorem Lk.trans {o o1 o2 : HO} (a : Lk o o1) (b : Lk o1 o2) : Lk o o2 := by
  rcases a with rfl | ⟨ob, kvs, rfl, rfl⟩
  · exact b
  · rcases b with rfl | ⟨ob', kvs', e, _⟩
    · exact .inr ⟨ob, kvs, rfl, rfl⟩
    · cases e
theorem Lk.frz {ob : Obj} {u o' : HO} (l : Lk (.frz ob u) o') : o' = .frz ob u := by
  rcases l with rfl | ⟨_, _, e, _⟩
  · rfl
  · cases e
section
variable (K : PySem.W.Frag) (CA : Nat → Addr) (m : Mp) (h : CH) (H : Hp)
mutual
inductive Rp : V → D → Prop
  | non : Rp .non .non
  | bl (b : Bool) : Rp (.bl b) (.bl b)
  | int (i : Int) : Rp (.int i) (.int i)
  | str (x : Str) : Rp (.str x) (.str x)
  | lst {a : Addr} {xs : List V} {ds : List D} : ¬ Live m h a → H a = some (.lst xs) → RpAll xs ds → Rp (.ref a) (.lst ds)
  | tup {a : Addr} {xs : List V} {ds : List D} : ¬ Live m h a → H a = some (.tup xs) → RpAll xs ds → Rp (.ref a) (.tup ds)
  | ktup {a : Addr} {xs : List V} {ds : List D} : SqT K (fun _ => none) a xs → RpAll xs ds → Rp (.ref a) (.tup ds)
  | dct {a : Addr} {o : HO} {kvs : List (Key × V)} {dks : List (Key × D)} : ¬ Live m h a → H a = some o → core o = .dK kvs → kvs.map (·.1) = dks.map (·.1) → RpAll (kvs.map (·.2)) (dks.map (·.2)) → Rp (.ref a) (.dct dks)
  | obj {a : Addr} {c : Nat} {dx : Addr} {fs : List (Str × V)} {dfs : List (Str × D)} : ¬ Live m h a → H a = some (.ins (CA c) dx fs) → fs.map (·.1) = dfs.map (·.1) → RpAll (fs.map (·.2)) (dfs.map (·.2)) → Rp (.ref a) (.obj c dfs)
  | scr {a : Addr} {ns : List Int} {o : Obj} : ¬ Live m h a → H a = some (.frz o (.lst (ns.map V.int))) → Rp (.ref a) (.scr ns)
  | kscr {a : Addr} {ns : List Int} : SqL K (fun _ => none) a (ns.map V.int) → Rp (.ref a) (.scr ns)
  | ref {k : Nat} : k < h.nx → Rp (.ref (m k)) (.ref k)
  | ty (n : String) : Rp (.ty n) (.ty n)
  | cls (c : Nat) : Rp (.ref (CA c)) (.cls c)
inductive RpAll : List V → List D → Prop
  | nil : RpAll [] []
  | cons {v : V} {vs : List V} {d : D} {ds : List D} : Rp v d → RpAll vs ds → RpAll (v :: vs) (d :: ds)
end
end
/-- a step: names stand, and what stands outside of the named objects stands on -/
structure Mv (m : Mp) (h : CH) (H : Hp) (m' : Mp) (h' : CH) (H' : Hp) : Prop where
  nx : h.nx ≤ h'.nx
  mp : ∀ k, k < h.nx → m' k = m k
  kp : ∀ a o, ¬ Live m h a → H a = some o → ¬ Live m' h' a ∧ ∃ o', H' a = some o' ∧ Lk o o'
structure Sz (m : Mp) (h : CH) (H : Hp) (m' : Mp) (h' : CH) (H' : Hp) : Prop extends Mv m h H m' h' H' where
  lk : ∀ k o, k < h.nx → h.ob k = some o → Lckd o → h'.ob k = some o ∧ H' (m k) = H (m k)
structure Stp (m : Mp) (h : CH) (H : Hp) (m' : Mp) (h' : CH) (H' : Hp) : Prop extends Sz m h H m' h' H' where
  z : m'.z = m.z
  zk : ∀ a, a ∈ m.z → H' a = H a
/-- while a thing is made at p -/
structure Sc (p : Addr) (m : Mp) (h : CH) (H : Hp) (m' : Mp) (h' : CH) (H' : Hp) : Prop extends Sz m h H m' h' H' where
  z : m'.z = m.z
  zk : ∀ a, a ∈ m.z → a ≠ p → H' a = H a
theorem Stp.mk' {m m' : Mp} {h h' : CH} {H H' : Hp} (x : Mv m h H m' h' H') (lk : ∀ k o, k < h.nx → h.ob k = some o → Lckd o → h'.ob k = some o ∧ H' (m k) = H (m k)) (z : m'.z = m.z) (zk : ∀ a, a ∈ m.z → H' a = H a) : Stp m h H m' h' H' := ⟨⟨x, lk⟩, z, zk⟩
theorem Stp.refl {m : Mp} {h : CH} {H : Hp} : Stp m h H m h H := .mk' ⟨Nat.le_refl _, fun _ _ => rfl, fun _ o n e => ⟨n, o, e, .inl rfl⟩⟩ (fun _ _ _ e _ => ⟨e, rfl⟩) rfl fun _ _ => rfl
theorem Stp.sc {p : Addr} {m m' : Mp} {h h' : CH} {H H' : Hp} (s : Stp m h H m' h' H') : Sc p m h H m' h' H' := ⟨s.toSz, s.z, fun a l _ => s.zk a l⟩
theorem Sz.trans {m m1 m2 : Mp} {h h1 h2 : CH} {H H1 H2 : Hp} (a : Sz m h H m1 h1 H1) (b : Sz m1 h1 H1 m2 h2 H2) : Sz m h H m2 h2 H2 :=
  ⟨⟨Nat.le_trans a.nx b.nx, fun k l => (b.mp k (Nat.lt_of_lt_of_le l a.nx)).trans (a.mp k l), fun x o n e => by
    obtain ⟨n1, o1, e1, c1⟩ := a.kp x o n e
    obtain ⟨n2, o2, e2, c2⟩ := b.kp x o1 n1 e1
    exact ⟨n2, o2, e2, c1.trans c2⟩⟩, fun k kvs l e ld => by
    obtain ⟨e1, q1⟩ := a.lk k kvs l e ld
    obtain ⟨e2, q2⟩ := b.lk k kvs (Nat.lt_of_lt_of_le l a.nx) e1 ld
    rw [a.mp k l] at q2
    exact ⟨e2, q2.trans q1⟩⟩
theorem Stp.trans {m m1 m2 : Mp} {h h1 h2 : CH} {H H1 H2 : Hp} (a : Stp m h H m1 h1 H1) (b : Stp m1 h1 H1 m2 h2 H2) : Stp m h H m2 h2 H2 := ⟨a.toSz.trans b.toSz, b.z.trans a.z, fun x l => (b.zk x (by rw [a.z]; exact l)).trans (a.zk x l)⟩
theorem Sc.trans {p : Addr} {m m1 m2 : Mp} {h h1 h2 : CH} {H H1 H2 : Hp} (a : Sc p m h H m1 h1 H1) (b : Sc p m1 h1 H1 m2 h2 H2) : Sc p m h H m2 h2 H2 := ⟨a.toSz.trans b.toSz, b.z.trans a.z, fun x l n => (b.zk x (by rw [a.z]; exact l) n).trans (a.zk x l n)⟩

section
variable {K : PySem.W.Frag} {CA : Nat → Addr} {m m' : Mp} {h h' : CH} {H H' : Hp} {v : V} {d : D} {vs : List V} {ds : List D}
theorem Rp.mv0 (snx : h.nx ≤ h'.nx) (smp : ∀ k, k < h.nx → m' k = m k) (skp : ∀ a o, ¬ Live m h a → H a = some o → ¬ Live m' h' a ∧ ∃ o', H' a = some o' ∧ Lk o o') : ∀ {v d}, Rp K CA m h H v d → Rp K CA m' h' H' v d := fun {v d} r => by
  refine Rp.rec (motive_1 := fun v d _ => Rp K CA m' h' H' v d) (motive_2 := fun vs ds _ => RpAll K CA m' h' H' vs ds) ?_ ?_ ?_ ?_ ?_ ?_ ?_ ?_ ?_ ?_ ?_ ?_ ?_ ?_ ?_ ?_ r
  · exact .non
  · exact .bl
  · exact .int
  · exact .str
  · intro a xs ds n e _ ih
    obtain ⟨n', o', e', c⟩ := skp a _ n e
    replace c := c.core
    exact .lst n' (by rw [e', core_lst c]) ih
  · intro a xs ds n e _ ih
    obtain ⟨n', o', e', c⟩ := skp a _ n e
    replace c := c.core
    exact .tup n' (by rw [e', core_tup c]) ih
  · intro a xs ds e _ ih
    exact .ktup e ih
  · intro a o kvs dks n e c en _ ih
    obtain ⟨n', o', e', c'⟩ := skp a _ n e
    replace c' := c'.core
    exact .dct n' e' (c'.trans c) en ih
  · intro a c dx fs dfs n e en _ ih
    obtain ⟨n', o', e', c'⟩ := skp a _ n e
    replace c' := c'.core
    exact .obj n' (by rw [e', core_ins c']) en ih
  · intro a ns o n e
    obtain ⟨n', o', e', c'⟩ := skp a _ n e
    replace c' := c'.core
    exact .scr n' (by rw [e', core_frzL c'])
  · intro a ns e
    exact .kscr e
  · intro k l
    rw [← smp k l]
    exact .ref (Nat.lt_of_lt_of_le l snx)
  · exact .ty
  · exact .cls
  · exact .nil
  · intro v vs d ds _ _ ih1 ih2
    exact .cons ih1 ih2
theorem RpAll.mv0 (snx : h.nx ≤ h'.nx) (smp : ∀ k, k < h.nx → m' k = m k) (skp : ∀ a o, ¬ Live m h a → H a = some o → ¬ Live m' h' a ∧ ∃ o', H' a = some o' ∧ Lk o o') : ∀ {vs ds}, RpAll K CA m h H vs ds → RpAll K CA m' h' H' vs ds := fun {vs ds} r => by
  induction vs generalizing ds with
  | nil => cases r; exact .nil
  | cons v vs ih => cases r with
    | cons h1 h2 => exact .cons (h1.mv0 snx smp skp) (ih h2)
theorem Rp.mv (s : Mv m h H m' h' H') {v d} (r : Rp K CA m h H v d) : Rp K CA m' h' H' v d := r.mv0 s.nx s.mp s.kp
theorem RpAll.mv (s : Mv m h H m' h' H') {vs ds} (r : RpAll K CA m h H vs ds) : RpAll K CA m' h' H' vs ds := r.mv0 s.nx s.mp s.kp
theorem Rp.move (s : Stp m h H m' h' H') {v d} (r : Rp K CA m h H v d) : Rp K CA m' h' H' v d := r.mv s.toMv
theorem RpAll.move (s : Stp m h H m' h' H') {vs ds} (r : RpAll K CA m h H vs ds) : RpAll K CA m' h' H' vs ds := r.mv s.toMv
theorem RpAll.length (r : RpAll K CA m h H vs ds) : vs.length = ds.length := by
  induction vs generalizing ds with
  | nil => cases r; rfl
  | cons v vs ih => cases r with
    | cons _ h2 => simp [ih h2]
theorem RpAll.getD (r : RpAll K CA m h H vs ds) {i : Nat} {d : D} (e : ds[i]? = some d) : ∃ v, vs[i]? = some v ∧ Rp K CA m h H v d := by
  induction vs generalizing ds i with
  | nil => cases r; simp at e
  | cons x vs ih => cases r with
    | cons h1 h2 =>
      cases i with
      | zero => simp at e; subst e; exact ⟨_, rfl, h1⟩
      | succ i => simpa using ih h2 (by simpa using e)
theorem RpAll.get (r : RpAll K CA m h H vs ds) {i : Nat} {v : V} (e : vs[i]? = some v) : ∃ d, ds[i]? = some d ∧ Rp K CA m h H v d := by
  induction vs generalizing ds i with
  | nil => simp at e
  | cons x vs ih => cases r with
    | cons h1 h2 =>
      cases i with
      | zero => simp at e; subst e; exact ⟨_, rfl, h1⟩
      | succ i => simpa using ih h2 (by simpa using e)
theorem RpAll.append {vs' : List V} {ds' : List D} (r : RpAll K CA m h H vs ds) (r' : RpAll K CA m h H vs' ds') : RpAll K CA m h H (vs ++ vs') (ds ++ ds') := by
  induction vs generalizing ds with
  | nil => cases r; exact r'
  | cons x vs ih => cases r with
    | cons h1 h2 => exact .cons h1 (ih h2)
theorem RpAll.take (r : RpAll K CA m h H vs ds) (n : Nat) : RpAll K CA m h H (vs.take n) (ds.take n) := by
  induction vs generalizing ds n with
  | nil => cases r; simp; exact .nil
  | cons x vs ih => cases r with
    | cons h1 h2 =>
      cases n with
      | zero => exact .nil
      | succ n => exact .cons h1 (ih h2 n)
theorem RpAll.drop (r : RpAll K CA m h H vs ds) (n : Nat) : RpAll K CA m h H (vs.drop n) (ds.drop n) := by
  induction vs generalizing ds n with
  | nil => cases r; simp; exact .nil
  | cons x vs ih => cases r with
    | cons h1 h2 =>
      cases n with
      | zero => exact .cons h1 h2
      | succ n => exact ih h2 n
theorem RpAll.eraseIdx (r : RpAll K CA m h H vs ds) (n : Nat) : RpAll K CA m h H (vs.eraseIdx n) (ds.eraseIdx n) := by
  induction vs generalizing ds n with
  | nil => cases r; simp; exact .nil
  | cons x vs ih => cases r with
    | cons h1 h2 =>
      cases n with
      | zero => exact h2
      | succ n => exact .cons h1 (ih h2 n)
theorem RpAll.set (r : RpAll K CA m h H vs ds) (n : Nat) (r1 : Rp K CA m h H v d) : RpAll K CA m h H (vs.set n v) (ds.set n d) := by
  induction vs generalizing ds n with
  | nil => cases r; simp; exact .nil
  | cons x vs ih => cases r with
    | cons h1 h2 =>
      cases n with
      | zero => exact .cons r1 h2
      | succ n => exact .cons h1 (ih h2 n)
theorem RpAll.reverse (r : RpAll K CA m h H vs ds) : RpAll K CA m h H vs.reverse ds.reverse := by
  induction vs generalizing ds with
  | nil => cases r; exact .nil
  | cons x vs ih => cases r with
    | cons h1 h2 =>
      simp only [List.reverse_cons]
      exact (ih h2).append (.cons h1 .nil)
end

section
variable (K : PySem.W.Frag) (CA : Nat → Addr) (m : Mp) (h : CH) (H : Hp)
/-- the named object o stands at a -/
inductive MOk (a : Addr) : MO → Prop
  | lst {xs : List V} {ds : List D} : H a = some (.lst xs) → RpAll K CA m h H xs ds → MOk a (.lst ds)
  | dct {kvs : List (Key × V)} {dks : List (Key × D)} : H a = some (.dK kvs) → kvs.map (·.1) = dks.map (·.1) → RpAll K CA m h H (kvs.map (·.2)) (dks.map (·.2)) → MOk a (.dct dks)
  | lck {ob : Obj} {kvs : List (Key × V)} {dks : List (Key × D)} : H a = some (.frz ob (.dK kvs)) → kvs.map (·.1) = dks.map (·.1) → RpAll K CA m h H (kvs.map (·.2)) (dks.map (·.2)) → MOk a (.lck dks)
  | lkl {xs : List V} {ds : List D} : H a = some (.lst xs) → RpAll K CA m h H xs ds → MOk a (.lkl ds)
  | obj {c : Nat} {dx : Addr} {fs : List (Str × V)} {dfs : List (Str × D)} : H a = some (.ins (CA c) dx fs) → fs.map (·.1) = dfs.map (·.1) → RpAll K CA m h H (fs.map (·.2)) (dfs.map (·.2)) → MOk a (.obj c dfs)
  | dctT {kvs : List (List Key × V)} {dks : List (List Key × D)} : H a = some (.dT kvs) → kvs.map (·.1) = dks.map (·.1) → RpAll K CA m h H (kvs.map (·.2)) (dks.map (·.2)) → MOk a (.dctT dks)
structure HR : Prop where
  ob : ∀ k o, h.ob k = some o → k < h.nx ∧ MOk K CA m h H (m k) o
  inj : ∀ k j o u, h.ob k = some o → h.ob j = some u → m k = m j → k = j
  zn : ∀ k o, h.ob k = some o → m k ∉ m.z
  zh : ∀ a, a ∈ m.z → ∃ u, H a = some u
abbrev DE := List (Option D)
structure SO (σ : L2.St) (ρ : DE) : Prop where
  hr : HR K CA m h H
  len : σ.length = ρ.length
  sl : ∀ (i : Nat) (d : D), ρ[i]? = some (some d) → ∃ v, σ[i]? = some (some v) ∧ Rp K CA m h H v d
/-- an exception, told -/
def XR (cls : Value) (dd : Option Addr) (c : Nat) (fs : List (Str × D)) : Prop :=
  cls = .ref (CA c) ∧ ((dd = none ∧ fs = []) ∨ ∃ (x : Addr) (hf : List (Str × V)), dd = some x ∧ ¬ Live m h x ∧ H x = some (.xd hf) ∧ hf.map (·.1) = fs.map (·.1) ∧ RpAll K CA m h H (hf.map (·.2)) (fs.map (·.2)))
end

section
variable {K : PySem.W.Frag} {CA : Nat → Addr} {m m' : Mp} {h h' : CH} {H H' : Hp} {σ : L2.St} {ρ : DE} {v : V} {d : D} {a p : Addr} {o : MO} {k : Nat}
theorem MOk.mv (s : Mv m h H m' h' H') (e : H' a = H a) (x : MOk K CA m h H a o) : MOk K CA m' h' H' a o := by
  cases x with
  | lst q r => exact .lst (e.trans q) (r.mv s)
  | dct q en r => exact .dct (e.trans q) en (r.mv s)
  | lck q en r => exact .lck (e.trans q) en (r.mv s)
  | lkl q r => exact .lkl (e.trans q) (r.mv s)
  | obj q en r => exact .obj (e.trans q) en (r.mv s)
  | dctT q en r => exact .dctT (e.trans q) en (r.mv s)
theorem MOk.move (s : Stp m h H m' h' H') (e : H' a = H a) (x : MOk K CA m h H a o) : MOk K CA m' h' H' a o := x.mv s.toMv e
theorem MOk.some (x : MOk K CA m h H a o) : ∃ u, H a = some u := by
  cases x with
  | lst q r => exact ⟨_, q⟩
  | dct q en r => exact ⟨_, q⟩
  | lck q en r => exact ⟨_, q⟩
  | lkl q r => exact ⟨_, q⟩
  | obj q en r => exact ⟨_, q⟩
  | dctT q en r => exact ⟨_, q⟩
theorem HR.live (S : HR K CA m h H) (l : Live m h a) : ∃ u, H a = some u := by
  rcases l with ⟨k, o, e, rfl⟩ | l
  · exact (S.ob k o e).2.some
  · exact S.zh a l
theorem HR.fresh (S : HR K CA m h H) (n : H p = none) : ¬ Live m h p := fun l => by
  obtain ⟨u, e⟩ := S.live l
  rw [n] at e; cases e
theorem SO.move (S : SO K CA m h H σ ρ) (s : Stp m h H m' h' H') (r : HR K CA m' h' H') : SO K CA m' h' H' σ ρ :=
  ⟨r, S.len, fun i d e => let ⟨v, e1, q⟩ := S.sl i d e; ⟨v, e1, q.move s⟩⟩
theorem XR.move {cls : Value} {dd : Option Addr} {c : Nat} {fs : List (Str × D)} (x : XR K CA m h H cls dd c fs) (s : Stp m h H m' h' H') : XR K CA m' h' H' cls dd c fs := by
  obtain ⟨x1, x2⟩ := x
  refine ⟨x1, x2.imp id ?_⟩
  rintro ⟨y, hf, e1, e2, e3, e4, e5⟩
  obtain ⟨n', o', e', c'⟩ := s.kp y _ e2 e3
  replace c' := c'.core
  exact ⟨y, hf, e1, n', by rw [e', core_xd c'], e4, e5.move s⟩
/-- a new object that does not change -/
theorem stp_laid (S : HR K CA m h H) {u : HO} (n : H p = none) : Stp m h H m h (upd H p u) :=
  .mk' ⟨Nat.le_refl _, fun _ _ => rfl, fun b x l e => ⟨l, x, by rw [upd_ne (ne_of_none e n)]; exact e, .inl rfl⟩⟩ (fun k kvs _ e _ => ⟨e, by
    obtain ⟨u, q⟩ := (S.ob k _ e).2.some
    exact upd_ne (ne_of_none q n)⟩) rfl fun a l => by
    obtain ⟨u, q⟩ := S.zh a l
    exact upd_ne (ne_of_none q n)
/-- things are laid: what stood stands -/
theorem stp_grow {H1 : Hp} (S : HR K CA m h H) (k : ∀ a u, H a = some u → H1 a = some u) : Stp m h H m h H1 :=
  .mk' ⟨Nat.le_refl _, fun _ _ => rfl, fun b x l e => ⟨l, x, k b x e, .inl rfl⟩⟩ (fun j kvs _ e _ => ⟨e, by
    obtain ⟨u, q⟩ := (S.ob j _ e).2.some
    rw [q]; exact k _ _ q⟩) rfl fun a l => by
    obtain ⟨u, q⟩ := S.zh a l
    rw [q]; exact k _ _ q
theorem HR.grow {H1 : Hp} (S : HR K CA m h H) (k : ∀ a u, H a = some u → H1 a = some u) : HR K CA m h H1 :=
  ⟨fun j o e => ⟨(S.ob j o e).1, (S.ob j o e).2.move (stp_grow S k) (by
    obtain ⟨x, q⟩ := (S.ob j o e).2.some
    rw [q]; exact k _ _ q)⟩, S.inj, S.zn, fun a l => by
    obtain ⟨w, q⟩ := S.zh a l
    exact ⟨w, k a w q⟩⟩
theorem HR.laid (S : HR K CA m h H) {u : HO} (n : H p = none) : HR K CA m h (upd H p u) :=
  ⟨fun k o e => ⟨(S.ob k o e).1, (S.ob k o e).2.move (stp_laid S n) (by
    obtain ⟨x, q⟩ := (S.ob k o e).2.some
    exact upd_ne (ne_of_none q n))⟩, S.inj, S.zn, fun a l => by
    obtain ⟨w, q⟩ := S.zh a l
    exact ⟨w, by rw [upd_ne (ne_of_none q n)]; exact q⟩⟩
/-- the names, with a new one -/
def mpNew (m : Mp) (h : CH) (p : Addr) : Mp := ⟨fun j => if j = h.nx then p else m j, m.z⟩
theorem mpNew_nx : mpNew m h p h.nx = p := if_pos rfl
theorem mpNew_lt (l : k < h.nx) : mpNew m h p k = m k := if_neg (Nat.ne_of_lt l)
theorem live_new (S : HR K CA m h H) {o : MO} (l : Live (mpNew m h p) (h.new o) a) : a = p ∨ Live m h a := by
  rcases l with ⟨k, u, e, rfl⟩ | l
  · unfold CH.new at e
    by_cases q : k = h.nx
    · subst q; exact .inl mpNew_nx
    · simp only [if_neg q] at e
      exact .inr (.inl ⟨k, u, e, (mpNew_lt (S.ob k u e).1).symm⟩)
  · exact .inr (.inr l)
/-- a new object that may change: laid at p (H1 is H with p laid, and perhaps more) -/
theorem stp_new (S : HR K CA m h H) {o : MO} {H1 : Hp} (n : H p = none) (k : ∀ a u, H a = some u → H1 a = some u) : Stp m h H (mpNew m h p) (h.new o) H1 :=
  .mk' ⟨Nat.le_succ _, fun k l => mpNew_lt l, fun b x l e => ⟨fun z => by
    rcases live_new S z with rfl | z
    · rw [n] at e; cases e
    · exact l z, x, k b x e, .inl rfl⟩⟩ (fun j kvs l e _ => ⟨by
    unfold CH.new
    simp only [if_neg (Nat.ne_of_lt l)]
    exact e, by
    obtain ⟨u, q⟩ := (S.ob j _ e).2.some
    rw [q]; exact k _ _ q⟩) rfl fun a l => by
    obtain ⟨u, q⟩ := S.zh a l
    rw [q]; exact k _ _ q
theorem HR.new (S : HR K CA m h H) {o : MO} {H1 : Hp} (n : H p = none) (k : ∀ a u, H a = some u → H1 a = some u) (x : MOk K CA (mpNew m h p) (h.new o) H1 p o) : HR K CA (mpNew m h p) (h.new o) H1 := by
  have key : ∀ j u, (h.new o).ob j = some u → (j = h.nx ∧ u = o) ∨ (j < h.nx ∧ h.ob j = some u) := fun j u e => by
    unfold CH.new at e
    by_cases q : j = h.nx
    · simp only [if_pos q] at e; cases e; exact .inl ⟨q, rfl⟩
    · simp only [if_neg q] at e
      exact .inr ⟨(S.ob j u e).1, e⟩
  have off : ∀ j u, h.ob j = some u → m j ≠ p := fun j u e z => S.fresh n (.inl ⟨j, u, e, z⟩)
  refine ⟨fun j u e => ?_, fun i j u w e1 e2 e3 => ?_, fun j u e => ?_, fun a l => ?_⟩
  · rcases key j u e with ⟨rfl, rfl⟩ | ⟨l, q⟩
    · exact ⟨Nat.lt_succ_self _, by rw [mpNew_nx]; exact x⟩
    · refine ⟨Nat.lt_succ_of_lt l, ?_⟩
      rw [mpNew_lt l]
      obtain ⟨y, z⟩ := (S.ob j u q).2.some
      exact (S.ob j u q).2.move (stp_new S n k) (by rw [z]; exact k _ _ z)
  · rcases key i u e1 with ⟨rfl, rfl⟩ | ⟨l1, q1⟩
    · rcases key j w e2 with ⟨rfl, rfl⟩ | ⟨l2, q2⟩
      · rfl
      · rw [mpNew_nx, mpNew_lt l2] at e3
        exact absurd e3.symm (off j w q2)
    · rcases key j w e2 with ⟨rfl, rfl⟩ | ⟨l2, q2⟩
      · rw [mpNew_nx, mpNew_lt l1] at e3
        exact absurd e3 (off i u q1)
      · rw [mpNew_lt l1, mpNew_lt l2] at e3
        exact S.inj i j u w q1 q2 e3
  · rcases key j u e with ⟨rfl, rfl⟩ | ⟨l, q⟩
    · rw [mpNew_nx]; exact fun z => S.fresh n (.inr z)
    · rw [mpNew_lt l]; exact S.zn j u q
  · obtain ⟨w, q⟩ := S.zh a l
    exact ⟨w, k a w q⟩
theorem upd_new {u : HO} (n : H p = none) : ∀ a w, H a = some w → upd H p u a = some w := fun a w e => by
  rw [upd_ne (ne_of_none e n)]; exact e
/-- the named object k is written -/
theorem live_put {o' : MO} (e : h.ob k = some o) : Live m (h.put k o') a ↔ Live m h a := by
  constructor
  · rintro (⟨j, u, q, rfl⟩ | q)
    · unfold CH.put at q
      by_cases z : j = k
      · subst z; exact .inl ⟨_, _, e, rfl⟩
      · simp only [if_neg z] at q; exact .inl ⟨_, _, q, rfl⟩
    · exact .inr q
  · rintro (⟨j, u, q, rfl⟩ | q)
    · by_cases z : j = k
      · subst z; exact .inl ⟨j, o', by unfold CH.put; simp, rfl⟩
      · exact .inl ⟨j, u, by unfold CH.put; simp only [if_neg z]; exact q, rfl⟩
    · exact .inr q
theorem mv_put (e : h.ob k = some o) {o' : MO} {u : HO} : Mv m h H m (h.put k o') (upd H (m k) u) :=
  ⟨Nat.le_refl _, fun _ _ => rfl, fun b x l q => ⟨fun z => l ((live_put e).mp z), x, by
    rw [upd_ne (fun z => l (.inl ⟨k, o, e, z.symm⟩))]; exact q, .inl rfl⟩⟩
theorem stp_put (S : HR K CA m h H) (e : h.ob k = some o) (nl : NotLck o) {o' : MO} {u : HO} : Stp m h H m (h.put k o') (upd H (m k) u) :=
  .mk' (mv_put e) (fun j kvs l q ld => by
    have nj : j ≠ k := fun z => by subst z; rw [q] at e; cases e; exact ld nl
    exact ⟨by unfold CH.put; simp only [if_neg nj]; exact q, upd_ne fun z => nj (S.inj _ _ _ _ q e z)⟩) rfl fun a l => upd_ne fun z => S.zn k _ e (by rw [← z]; exact l)
theorem HR.put (S : HR K CA m h H) (e : h.ob k = some o) {o' : MO} {u : HO} (x : MOk K CA m (h.put k o') (upd H (m k) u) (m k) o') : HR K CA m (h.put k o') (upd H (m k) u) := by
  have key : ∀ j w, (h.put k o').ob j = some w → (j = k ∧ w = o') ∨ (j ≠ k ∧ h.ob j = some w) := fun j w q => by
    unfold CH.put at q
    by_cases z : j = k
    · simp only [if_pos z] at q; cases q; exact .inl ⟨z, rfl⟩
    · simp only [if_neg z] at q; exact .inr ⟨z, q⟩
  have back : ∀ j w, (h.put k o').ob j = some w → ∃ w', h.ob j = some w' := fun j w q => by
    rcases key j w q with ⟨rfl, _⟩ | ⟨_, q⟩
    · exact ⟨_, e⟩
    · exact ⟨_, q⟩
  refine ⟨fun j w q => ?_, fun i j w w' e1 e2 e3 => ?_, fun j w q => ?_, fun a l => ?_⟩
  · rcases key j w q with ⟨rfl, rfl⟩ | ⟨z, q⟩
    · exact ⟨(S.ob _ _ e).1, x⟩
    · exact ⟨(S.ob _ _ q).1, (S.ob _ _ q).2.mv (mv_put e) (upd_ne fun y => z (S.inj _ _ _ _ q e y))⟩
  · obtain ⟨y, q1⟩ := back i w e1
    obtain ⟨y', q2⟩ := back j w' e2
    exact S.inj i j _ _ q1 q2 e3
  · obtain ⟨y, q1⟩ := back j w q
    exact S.zn j _ q1
  · obtain ⟨y, q⟩ := S.zh a l
    exact ⟨y, by rw [upd_ne (fun z => S.zn k o e (by rw [← z]; exact l))]; exact q⟩
theorem put_same {o : MO} : (h.put k o).ob k = some o := by unfold CH.put; simp
theorem put_ne {o : MO} {j : Nat} (n : j ≠ k) : (h.put k o).ob j = h.ob j := by unfold CH.put; simp only [if_neg n]
/-- a dict is locked, things happen, it is unlocked -/
theorem lock_ok {kvs : List (Key × D)} (S : HR K CA m h H) (e : h.ob k = some (.dct kvs)) : ∃ hk, H (m k) = some (.dK hk) ∧ ∀ od, Stp m h H m (h.put k (.lck kvs)) (upd H (m k) (.frz od (.dK hk))) ∧ HR K CA m (h.put k (.lck kvs)) (upd H (m k) (.frz od (.dK hk))) := by
  have x := (S.ob k _ e).2
  cases x with
  | @dct hk _ q en r => exact ⟨hk, q, fun od => ⟨stp_put S e trivial, S.put e (.lck upd_same en (r.mv (mv_put e)))⟩⟩
theorem unlock_ok {kvs : List (Key × D)} {hk : List (Key × V)} {od : Obj} {m2 : Mp} {h2 : CH} {H2 : Hp} (S : HR K CA m h H) (e : h.ob k = some (.dct kvs)) (s : Stp m (h.put k (.lck kvs)) (upd H (m k) (.frz od (.dK hk))) m2 h2 H2) (S2 : HR K CA m2 h2 H2) :
    H2 (m2 k) = some (.frz od (.dK hk)) ∧ Stp m h H m2 (h2.put k (.dct kvs)) (upd H2 (m2 k) (.dK hk)) ∧ HR K CA m2 (h2.put k (.dct kvs)) (upd H2 (m2 k) (.dK hk)) := by
  have lt := (S.ob k _ e).1
  obtain ⟨e2, q2⟩ := s.lk k _ lt put_same id
  rw [upd_same] at q2
  have mk : m2 k = m k := s.mp k lt
  rw [← mk] at q2
  refine ⟨q2, .mk' ⟨s.nx, s.mp, fun a o l q => ?_⟩ (fun j kv l q ld => ?_) s.z (fun a l => ?_), S2.put e2 ?_⟩
  · have na : a ≠ m k := fun z => l (.inl ⟨k, _, e, z.symm⟩)
    obtain ⟨l2, o', q', lk⟩ := s.kp a o (fun z => l ((live_put e).mp z)) (by rw [upd_ne na]; exact q)
    exact ⟨fun z => l2 ((live_put e2).mp z), o', by rw [upd_ne (by rw [mk]; exact na)]; exact q', lk⟩
  · have nj : j ≠ k := fun z => by subst z; rw [q] at e; cases e; exact ld trivial
    have nm : m j ≠ m k := fun z => nj (S.inj _ _ _ _ q e z)
    obtain ⟨a1, a2⟩ := s.lk j kv l (by rw [put_ne nj]; exact q) ld
    rw [upd_ne nm] at a2
    exact ⟨by rw [put_ne nj]; exact a1, by rw [upd_ne (by rw [mk]; exact nm)]; exact a2⟩
  · have na : a ≠ m k := fun z => S.zn k _ e (by rw [← z]; exact l)
    have q3 := s.zk a l
    rw [upd_ne na] at q3
    rw [upd_ne (by rw [mk]; exact na)]
    exact q3
  · have x := (S2.ob k _ e2).2
    cases x with
    | @lck _ hk' _ q en r =>
      rw [q2] at q
      cases q
      exact .dct upd_same en (r.mv (mv_put e2))
theorem upd_eq {a : Addr} {u : HO} (e : H a = some u) : upd H a u = H := by
  funext b
  by_cases z : b = a
  · subst z; rw [upd_same, e]
  · rw [upd_ne z]
/-- a list is locked, things happen, it is unlocked -/
theorem lockL_ok {ds : List D} (S : HR K CA m h H) (e : h.ob k = some (.lst ds)) : ∃ xs, H (m k) = some (.lst xs) ∧ RpAll K CA m h H xs ds ∧ Stp m h H m (h.put k (.lkl ds)) H ∧ HR K CA m (h.put k (.lkl ds)) H := by
  have x := (S.ob k _ e).2
  cases x with
  | @lst xs _ q r =>
    have s1 := stp_put (o' := .lkl ds) (u := .lst xs) S e trivial
    have S1 := S.put (o' := .lkl ds) (u := .lst xs) e (.lkl upd_same (r.mv (mv_put e)))
    rw [upd_eq q] at s1 S1
    exact ⟨xs, q, r, s1, S1⟩
theorem unlockL_ok {ds : List D} {m2 : Mp} {h2 : CH} {H2 : Hp} (S : HR K CA m h H) (e : h.ob k = some (.lst ds)) (s : Stp m (h.put k (.lkl ds)) H m2 h2 H2) (S2 : HR K CA m2 h2 H2) :
    h2.ob k = some (.lkl ds) ∧ Stp m h H m2 (h2.put k (.lst ds)) H2 ∧ HR K CA m2 (h2.put k (.lst ds)) H2 := by
  have lt := (S.ob k _ e).1
  obtain ⟨e2, q2⟩ := s.lk k _ lt put_same id
  have x := (S2.ob k _ e2).2
  cases x with
  | @lkl xs _ qh r =>
    have S3 := S2.put (o' := .lst ds) (u := .lst xs) e2 (.lst upd_same (r.mv (mv_put e2)))
    rw [upd_eq qh] at S3
    refine ⟨e2, .mk' ⟨s.nx, s.mp, fun a o l qa => ?_⟩ (fun j kv l qj ld => ?_) s.z s.zk, S3⟩
    · obtain ⟨l2, o', q', lk⟩ := s.kp a o (fun z => l ((live_put e).mp z)) qa
      exact ⟨fun z => l2 ((live_put e2).mp z), o', q', lk⟩
    · have nj : j ≠ k := fun z => by subst z; rw [qj] at e; cases e; exact ld trivial
      obtain ⟨a1, a2⟩ := s.lk j kv l (by rw [put_ne nj]; exact qj) ld
      exact ⟨by rw [put_ne nj]; exact a1, a2⟩
/-- the named object k is given free: it will not change -/
theorem live_del (S : HR K CA m h H) (e : h.ob k = some o) : Live m (h.del k) a → Live m h a ∧ a ≠ m k := by
  rintro (⟨j, u, q, rfl⟩ | q)
  · unfold CH.del at q
    by_cases z : j = k
    · simp only [if_pos z] at q; cases q
    · simp only [if_neg z] at q
      exact ⟨.inl ⟨j, u, q, rfl⟩, fun y => z (S.inj _ _ _ _ q e y)⟩
  · exact ⟨.inr q, fun z => S.zn k o e (z ▸ q)⟩
theorem stp_del (S : HR K CA m h H) (e : h.ob k = some o) (nl : NotLck o) : Stp m h H m (h.del k) H :=
  .mk' ⟨Nat.le_refl _, fun _ _ => rfl, fun b x l q => ⟨fun z => l (live_del S e z).1, x, q, .inl rfl⟩⟩ (fun j kvs l q ld => by
    have nj : j ≠ k := fun z => by subst z; rw [q] at e; cases e; exact ld nl
    exact ⟨by unfold CH.del; simp only [if_neg nj]; exact q, rfl⟩) rfl fun _ _ => rfl
theorem HR.del (S : HR K CA m h H) (e : h.ob k = some o) (nl : NotLck o) : HR K CA m (h.del k) H := by
  have key : ∀ j w, (h.del k).ob j = some w → h.ob j = some w := fun j w q => by
    unfold CH.del at q
    by_cases z : j = k
    · simp only [if_pos z] at q; cases q
    · simp only [if_neg z] at q; exact q
  exact ⟨fun j w q => ⟨(S.ob j w (key j w q)).1, (S.ob j w (key j w q)).2.move (stp_del S e nl) rfl⟩, fun i j w w' e1 e2 => S.inj i j w w' (key i w e1) (key j w' e2), fun j w q => S.zn j w (key j w q), S.zh⟩
/-- a thing begins to be made at p -/
def Mp.add (m : Mp) (p : Addr) : Mp := ⟨m.f, p :: m.z⟩
theorem Mp.add_kp {u : HO} (n : H p = none) : ∀ a o, ¬ Live m h a → H a = some o → ¬ Live (m.add p) h a ∧ ∃ o', upd H p u a = some o' ∧ Lk o o' := fun a o l e => ⟨fun z => by
    rcases z with ⟨k, w, q, rfl⟩ | z
    · exact l (.inl ⟨k, w, q, rfl⟩)
    · rcases List.mem_cons.mp z with rfl | z
      · rw [n] at e; cases e
      · exact l (.inr z), o, by rw [upd_ne (ne_of_none e n)]; exact e, .inl rfl⟩
theorem Rp.add {u : HO} (n : H p = none) {v : V} {d : D} (r : Rp K CA m h H v d) : Rp K CA (m.add p) h (upd H p u) v d := Rp.mv0 (m := m) (h := h) (H := H) (m' := m.add p) (h' := h) (H' := upd H p u) (Nat.le_refl _) (fun _ _ => rfl) (Mp.add_kp n) r
theorem RpAll.add {u : HO} (n : H p = none) {v : List V} {d : List D} (r : RpAll K CA m h H v d) : RpAll K CA (m.add p) h (upd H p u) v d := RpAll.mv0 (m := m) (h := h) (H := H) (m' := m.add p) (h' := h) (H' := upd H p u) (Nat.le_refl _) (fun _ _ => rfl) (Mp.add_kp n) r
theorem HR.add (S : HR K CA m h H) {u : HO} (n : H p = none) : HR K CA (m.add p) h (upd H p u) := by
  have rps : ∀ {vs : List V} {ds : List D}, RpAll K CA m h H vs ds → RpAll K CA (m.add p) h (upd H p u) vs ds := fun r => r.add n
  refine ⟨fun k o e => ⟨(S.ob k o e).1, ?_⟩, S.inj, fun k o e z => ?_, fun a l => ?_⟩
  · have ne : m k ≠ p := fun z => S.fresh n (.inl ⟨k, o, e, z⟩)
    have x := (S.ob k o e).2
    have nq : ∀ {w}, H (m k) = some w → upd H p u ((m.add p) k) = some w := fun {w} q => by
      show upd H p u (m k) = some w
      rw [upd_ne ne]; exact q
    cases x with
    | lst q r => exact .lst (nq q) (rps r)
    | dct q en r => exact .dct (nq q) en (rps r)
    | lck q en r => exact .lck (nq q) en (rps r)
    | lkl q r => exact .lkl (nq q) (rps r)
    | obj q en r => exact .obj (nq q) en (rps r)
    | dctT q en r => exact .dctT (nq q) en (rps r)
  · rcases List.mem_cons.mp z with z | z
    · exact S.fresh n (.inl ⟨k, o, e, z⟩)
    · exact S.zn k o e z
  · rcases List.mem_cons.mp l with rfl | l
    · exact ⟨u, upd_same⟩
    · obtain ⟨w, q⟩ := S.zh a l
      exact ⟨w, by rw [upd_ne (ne_of_none q n)]; exact q⟩
/-- .. it is changed while it is made -/
theorem sc_made (S : HR K CA m h H) (l : p ∈ m.z) {u : HO} : Sc p m h H m h (upd H p u) := by
  refine ⟨⟨⟨Nat.le_refl _, fun _ _ => rfl, fun b x nl q => ⟨nl, x, ?_, .inl rfl⟩⟩, fun k kvs _ e _ => ⟨e, upd_ne fun z => S.zn k _ e (by rw [z]; exact l)⟩⟩, rfl, fun a _ n => upd_ne n⟩
  have hb : b ≠ p := fun z => nl (.inr (by rw [z]; exact l))
  rw [upd_ne hb]; exact q
theorem sz_add (S : HR K CA m h H) {u : HO} (n : H p = none) : Sz m h H (m.add p) h (upd H p u) :=
  ⟨⟨Nat.le_refl _, fun _ _ => rfl, Mp.add_kp n⟩, fun k kvs _ e _ => ⟨e, upd_ne fun z => S.fresh n (.inl ⟨k, _, e, z⟩)⟩⟩
theorem HR.made (S : HR K CA m h H) (l : p ∈ m.z) {u : HO} : HR K CA m h (upd H p u) :=
  ⟨fun k o e => ⟨(S.ob k o e).1, (S.ob k o e).2.mv (sc_made S l).toMv (upd_ne fun z => S.zn k _ e (by rw [z]; exact l))⟩, S.inj, S.zn, fun a la => by
    by_cases q : a = p
    · subst q; exact ⟨u, upd_same⟩
    · obtain ⟨w, e⟩ := S.zh a la
      exact ⟨w, by rw [upd_ne q]; exact e⟩⟩
/-- .. it is made: since (m, h, H), where p was free -/
theorem stp_done {m2 : Mp} {h2 : CH} {H2 : Hp} (S : HR K CA m h H) {u : HO} (n : H p = none) (s : Sc p (m.add p) h (upd H p u) m2 h2 H2) : Stp m h H ⟨m2.f, m.z⟩ h2 H2 := by
  have z2 : m2.z = p :: m.z := s.z
  refine .mk' ⟨s.nx, s.mp, fun a o l e => ?_⟩ (fun k kvs l e ld => ?_) rfl fun a l => ?_
  · have ne : a ≠ p := ne_of_none e n
    obtain ⟨l2, o', e', k'⟩ := s.kp a o (fun z => by
      rcases z with ⟨k, w, q, rfl⟩ | z
      · exact l (.inl ⟨k, w, q, rfl⟩)
      · rcases List.mem_cons.mp z with z | z
        · exact ne z
        · exact l (.inr z)) (by rw [upd_ne ne]; exact e)
    refine ⟨fun z => l2 ?_, o', e', k'⟩
    rcases z with z | z
    · exact .inl z
    · exact .inr (by rw [z2]; exact List.mem_cons_of_mem _ z)
  · obtain ⟨a1, a2⟩ := s.lk k kvs l e ld
    have ne : m k ≠ p := fun z => S.fresh n (.inl ⟨k, _, e, z⟩)
    exact ⟨a1, a2.trans (upd_ne ne)⟩
  · have ne : a ≠ p := fun z => S.fresh n (.inr (by rw [← z]; exact l))
    exact (s.zk a (List.mem_cons_of_mem _ l) ne).trans (upd_ne ne)
theorem Mp.done_kp {m2 : Mp} {zs : List Addr} {h2 : CH} {H2 : Hp} (z2 : m2.z = p :: zs) : ∀ a o, ¬ Live m2 h2 a → H2 a = some o → ¬ Live ⟨m2.f, zs⟩ h2 a ∧ ∃ o', H2 a = some o' ∧ Lk o o' := fun a o l e => ⟨fun z => l (by
    rcases z with z | z
    · exact .inl z
    · exact .inr (by rw [z2]; exact List.mem_cons_of_mem _ z)), o, e, .inl rfl⟩
theorem RpAll.done {m2 : Mp} {zs : List Addr} {h2 : CH} {H2 : Hp} (z2 : m2.z = p :: zs) {vs : List V} {ds : List D} (r : RpAll K CA m2 h2 H2 vs ds) : RpAll K CA ⟨m2.f, zs⟩ h2 H2 vs ds := RpAll.mv0 (m := m2) (h := h2) (H := H2) (m' := ⟨m2.f, zs⟩) (h' := h2) (H' := H2) (Nat.le_refl _) (fun _ _ => rfl) (Mp.done_kp z2) r
theorem HR.done {m2 : Mp} {zs : List Addr} {h2 : CH} {H2 : Hp} (S : HR K CA m2 h2 H2) (z2 : m2.z = p :: zs) : HR K CA ⟨m2.f, zs⟩ h2 H2 := by
  refine ⟨fun k o e => ⟨(S.ob k o e).1, ?_⟩, S.inj, fun k o e z => S.zn k o e (by rw [z2]; exact List.mem_cons_of_mem _ z), fun a l => S.zh a (by rw [z2]; exact List.mem_cons_of_mem _ l)⟩
  have x := (S.ob k o e).2
  cases x with
  | lst q r => exact .lst q (r.done z2)
  | dct q en r => exact .dct q en (r.done z2)
  | lck q en r => exact .lck q en (r.done z2)
  | lkl q r => exact .lkl q (r.done z2)
  | obj q en r => exact .obj q en (r.done z2)
  | dctT q en r => exact .dctT q en (r.done z2)
theorem set_some {α : Type} {l : List α} {i j : Nat} {x y : α} (h : (l.set i x)[j]? = some y) : (j = i ∧ y = x) ∨ (j ≠ i ∧ l[j]? = some y) := by
  by_cases e : j = i
  · subst e
    left
    refine ⟨rfl, ?_⟩
    rw [List.getElem?_set_self' ] at h
    cases q : l[j]? with
    | none => rw [q] at h; simp at h
    | some z => rw [q] at h; simpa using h.symm
  · right
    rw [List.getElem?_set_ne (Ne.symm e)] at h
    exact ⟨e, h⟩
theorem SO.set (S : SO K CA m h H σ ρ) (i : Nat) (r : Rp K CA m h H v d) : SO K CA m h H (σ.set i (some v)) (ρ.set i (some d)) := by
  refine ⟨S.hr, by simp [S.len], fun j s e => ?_⟩
  rcases set_some e with ⟨rfl, q⟩ | ⟨n, q⟩
  · cases q
    have hj : j < ρ.length := by
      have := (List.getElem?_eq_some_iff.mp e).1
      simpa using this
    exact ⟨v, by rw [List.getElem?_set_self (by rw [S.len]; exact hj)], r⟩
  · obtain ⟨w, e1, h⟩ := S.sl j s q
    exact ⟨w, by rw [List.getElem?_set_ne (Ne.symm n)]; exact e1, h⟩
end
end CM
namespace CM
open PySem PySem.Spec PyProof.Rows L2

/-! ### readings -/
abbrev TD := DE → CH → R D
abbrev TDs := DE → CH → R (List D)
abbrev TB := DE → CH → R Bool
/-- how a statement ends -/
inductive RS where
  | nx (ρ : DE) (h : CH) | rt (d : D) (h : CH) | bk (ρ : DE) (h : CH) | ct (ρ : DE) (h : CH)
  | ex (ρ : DE) (c : Nat) (fs : List (Str × D)) (h : CH) | no
abbrev SD := DE → CH → RS
def R.toS {α : Type} (r : R α) (ρ : DE) (f : α → CH → RS) : RS := match r with
  | .ok a h => f a h
  | .ex c fs h => .ex ρ c fs h
  | .no => .no
section
variable (K : PySem.W.Frag) (CA : Nat → Addr) (W : WX)
def PostG {α β : Type} (RR : Mp → CH → Hp → β → α → Prop) (m : Mp) (h : CH) (H : Hp) (σ : L2.St) (Q' : β → Hp → Prop) : R α → Prop
  | .ok a h' => ∀ m' b H', Stp m h H m' h' H' → HR K CA m' h' H' → RR m' h' H' b a → Q' b H'
  | .ex c fs h' => ∀ m' cls dd H', Stp m h H m' h' H' → HR K CA m' h' H' → XR K CA m' h' H' cls dd c fs → W cls dd σ H'
  | .no => False
abbrev RB : Mp → CH → Hp → Bool → Bool → Prop := fun _ _ _ b a => b = a
abbrev PostE := PostG K CA W (Rp K CA)
abbrev PostA := PostG K CA W (RpAll K CA)
abbrev PostT := PostG K CA W RB
def SimE (tH : TE) (t : TD) : Prop := ∀ (m : Mp) (h : CH) (H : Hp) (σ : L2.St) (ρ : DE) (Q' : VK), SO K CA m h H σ ρ → PostE K CA W m h H σ Q' (t ρ h) → tH σ H Q'
def SimT (tH : TT) (t : TB) : Prop := ∀ (m : Mp) (h : CH) (H : Hp) (σ : L2.St) (ρ : DE) (Q' : Bool → Hp → Prop), SO K CA m h H σ ρ → PostT K CA W m h H σ Q' (t ρ h) → tH σ H Q'
def SimA (tH : TA) (t : TDs) : Prop := ∀ (m : Mp) (h : CH) (H : Hp) (σ : L2.St) (ρ : DE) (Q' : List V → Hp → Prop), SO K CA m h H σ ρ → PostA K CA W m h H σ Q' (t ρ h) → tH σ H Q'
end
/-- operations by values -/
abbrev F1 := D → CH → R D
abbrev F2 := D → D → CH → R D
abbrev FD := List D → CH → R D
def SimR (K : PySem.W.Frag) (CA : Nat → Addr) (r : R2) (f : F2) : Prop := ∀ (W : WX) (σ : L2.St) (m : Mp) (h : CH) (H : Hp) (x y : V) (dx dy : D) (Q' : VK), HR K CA m h H → Rp K CA m h H x dx → Rp K CA m h H y dy → PostE K CA W m h H σ Q' (f dx dy h) → r x y H Q'
def SimU (K : PySem.W.Frag) (CA : Nat → Addr) (r : V → Hp → VK → Prop) (f : F1) : Prop := ∀ (W : WX) (σ : L2.St) (m : Mp) (h : CH) (H : Hp) (x : V) (dx : D) (Q' : VK), HR K CA m h H → Rp K CA m h H x dx → PostE K CA W m h H σ Q' (f dx h) → r x H Q'
def SimC (K : PySem.W.Frag) (CA : Nat → Addr) (r : List V → Hp → VK → Prop) (f : FD) : Prop := ∀ (W : WX) (σ : L2.St) (m : Mp) (h : CH) (H : Hp) (xs : List V) (ds : List D) (Q' : VK), HR K CA m h H → RpAll K CA m h H xs ds → PostE K CA W m h H σ Q' (f ds h) → r xs H Q'

section
variable {K : PySem.W.Frag} {CA : Nat → Addr} {W : WX} {m m1 : Mp} {h h1 : CH} {H H1 : Hp} {σ : L2.St} {α β γ δ : Type} {RR : Mp → CH → Hp → β → α → Prop} {RR2 : Mp → CH → Hp → δ → γ → Prop} {Q1 : β → Hp → Prop} {Q2 : δ → Hp → Prop} {p : Addr} {u : HO} {d : D} {v : V} {Q' : VK}
theorem PostG.from {r : R α} (q : PostG K CA W RR m h H σ Q1 r) (s : Stp m h H m1 h1 H1) : PostG K CA W RR m1 h1 H1 σ Q1 r := by
  cases r with
  | ok a h2 => exact fun m' b H' s' => q m' b H' (s.trans s')
  | ex c fs h2 => exact fun m' cls dd H' s' => q m' cls dd H' (s.trans s')
  | no => exact q
theorem PostG.bind {r : R α} {k : α → CH → R γ} (q : PostG K CA W RR2 m h H σ Q2 (r.bind k))
    (f : ∀ a h1 m1 b H1, Stp m h H m1 h1 H1 → HR K CA m1 h1 H1 → RR m1 h1 H1 b a → PostG K CA W RR2 m1 h1 H1 σ Q2 (k a h1) → Q1 b H1) : PostG K CA W RR m h H σ Q1 r := by
  cases r with
  | ok a h1 => exact fun m1 b H1 s S rr => f a h1 m1 b H1 s S rr (q.from s)
  | ex c fs h1 => exact q
  | no => exact q
theorem PostG.here {a : α} {b : β} (q : PostG K CA W RR m h H σ Q1 (.ok a h)) (S : HR K CA m h H) (r : RR m h H b a) : Q1 b H := q m b H .refl S r
theorem PostG.laid (q : PostE K CA W m h H σ Q' (.ok d h)) (S : HR K CA m h H) (n : H p = none) (r : Rp K CA m h (upd H p u) (.ref p) d) : Q' (.ref p) (upd H p u) := q m _ _ (stp_laid S n) (S.laid n) r
theorem PostG.new {o : MO} (q : PostE K CA W m h H σ Q' (.ok (.ref h.nx) (h.new o))) (S : HR K CA m h H) (n : H p = none) (x : MOk K CA (mpNew m h p) (h.new o) (upd H p u) p o) : Q' (.ref p) (upd H p u) :=
  q (mpNew m h p) _ _ (stp_new S n (upd_new n)) (S.new n (upd_new n) x) (by
    have := Rp.ref (K := K) (CA := CA) (m := mpNew m h p) (h := h.new o) (H := upd H p u) (k := h.nx) (Nat.lt_succ_self _)
    rw [mpNew_nx] at this
    exact this)
theorem rps_laid {vs : List V} {ds : List D} (S : HR K CA m h H) (n : H p = none) (r : RpAll K CA m h H vs ds) : RpAll K CA m h (upd H p u) vs ds := r.move (stp_laid S n)
theorem rps_new {vs : List V} {ds : List D} {o : MO} (S : HR K CA m h H) (n : H p = none) (r : RpAll K CA m h H vs ds) : RpAll K CA (mpNew m h p) (h.new o) (upd H p u) vs ds := r.move (stp_new S n (upd_new n))
end

/-- a new list, dict: a named object (true), or data -/
def mkL (nm : Bool) (ds : List D) (h : CH) : R D := match nm with
  | true => .ok (.ref h.nx) (h.new (.lst ds))
  | false => .ok (.lst ds) h
def mkD (nm : Bool) (ds : List (Key × D)) (h : CH) : R D := match nm with
  | true => .ok (.ref h.nx) (h.new (.dct ds))
  | false => .ok (.dct ds) h
section
variable {K : PySem.W.Frag} {CA : Nat → Addr} {W : WX} {m : Mp} {h : CH} {H : Hp} {σ : L2.St} {p : Addr} {Q' : VK}
theorem mkL_post {nm : Bool} {xs : List V} {ds : List D} (S : HR K CA m h H) (n : H p = none) (r : RpAll K CA m h H xs ds) (t : PostE K CA W m h H σ Q' (mkL nm ds h)) : Q' (.ref p) (upd H p (.lst xs)) := by
  cases nm with
  | true => exact PostG.new (show PostE K CA W m h H σ Q' (.ok (.ref h.nx) (h.new (.lst ds))) from t) S n (.lst upd_same (rps_new S n r))
  | false => exact PostG.laid (show PostE K CA W m h H σ Q' (.ok (.lst ds) h) from t) S n (.lst (S.fresh n) upd_same (rps_laid S n r))
theorem mkD_post {nm : Bool} {kvs : List (Key × V)} {dks : List (Key × D)} (S : HR K CA m h H) (n : H p = none) (en : kvs.map (·.1) = dks.map (·.1)) (r : RpAll K CA m h H (kvs.map (·.2)) (dks.map (·.2))) (t : PostE K CA W m h H σ Q' (mkD nm dks h)) : Q' (.ref p) (upd H p (.dK kvs)) := by
  cases nm with
  | true => exact PostG.new (show PostE K CA W m h H σ Q' (.ok (.ref h.nx) (h.new (.dct dks))) from t) S n (.dct upd_same en (rps_new S n r))
  | false => exact PostG.laid (show PostE K CA W m h H σ Q' (.ok (.dct dks) h) from t) S n (.dct (S.fresh n) upd_same rfl en (rps_laid S n r))
end

section
variable (X : Cx) (K : PySem.W.Frag) (CA : Nat → Addr) (W : WX)
structure WE (e : Expr) (tH : TE) (t : TD) : Prop where
  pe : PE X e tH
  sim : SimE K CA W tH t
structure WT (e : Expr) (tH : TT) (t : TB) : Prop where
  pe : PT X e tH
  sim : SimT K CA W tH t
structure WW (e : Expr) (tH : TT) (t : TB) : Prop where
  pe : PW X e tH
  sim : SimT K CA W tH t
structure WA (es : List Expr) (tH : TA) (t : TDs) : Prop where
  pe : PA X es tH
  sim : SimA K CA W tH t
end

def dVar (i : Nat) : TD := fun ρ h => match ρ[i]? with
  | some (some d) => .ok d h
  | _ => .no
def dC (d : D) : TD := fun _ h => .ok d h
def dOp (f : F2) (ta tb : TD) : TD := fun ρ h => (ta ρ h).bind fun x h => (tb ρ h).bind fun y h => f x y h
def dUn (f : F1) (ta : TD) : TD := fun ρ h => (ta ρ h).bind f
def dNil : TDs := fun _ h => .ok [] h
def dCons (ta : TD) (ts : TDs) : TDs := fun ρ h => (ta ρ h).bind fun x h => (ts ρ h).bind fun xs h => .ok (x :: xs) h
def dTup (ts : TDs) : TD := fun ρ h => (ts ρ h).bind fun xs h => if xs.length ≤ sizeLine then .ok (.tup xs) h else .no
def dLst (nm : Bool) (ts : TDs) : TD := fun ρ h => (ts ρ h).bind fun xs h => if xs.length ≤ sizeLine then mkL nm xs h else .no
def asB : D → CH → R Bool
  | .bl b, h => .ok b h
  | _, _ => .no
def dB (t : TD) : TB := fun ρ h => (t ρ h).bind asB
def dAnd (t u : TB) : TB := fun ρ h => (t ρ h).bind fun c h => if c = true then u ρ h else .ok false h
def dOr (t u : TB) : TB := fun ρ h => (t ρ h).bind fun c h => if c = true then .ok true h else u ρ h
def dNot (t : TB) : TB := fun ρ h => (t ρ h).bind fun c h => .ok (!c) h
def dAndV (ta tb : TD) : TD := fun ρ h => (ta ρ h).bind fun x h => (asB x h).bind fun c h => if c = true then tb ρ h else .ok (.bl false) h
def dOrV (ta tb : TD) : TD := fun ρ h => (ta ρ h).bind fun x h => (asB x h).bind fun c h => if c = true then .ok (.bl true) h else tb ρ h
def dNotV (ta : TD) : TD := fun ρ h => (ta ρ h).bind fun x h => (asB x h).bind fun c h => .ok (.bl (!c)) h
def dIf (t : TB) (ta tb : TD) : TD := fun ρ h => (t ρ h).bind fun c h => if c = true then ta ρ h else tb ρ h
def dCB (f : FD) (ts : TDs) : TD := fun ρ h => (ts ρ h).bind f
def dChain (f f' : F2) (ta tb tc : TD) : TD := fun ρ h => (ta ρ h).bind fun x h => (tb ρ h).bind fun y h => (f x y h).bind fun z h => (asB z h).bind fun k h =>
  if k = true then (tc ρ h).bind fun w h => f' y w h else .ok (.bl false) h

section
variable {X : Cx} {K : PySem.W.Frag} {CA : Nat → Addr} {W : WX} {e a b c : Expr} {es : List Expr} {pos : Pos} {ha hb hc : TE} {ta tb tc : TD} {hs : TA} {ts : TDs} {hA hB : TT} {tA tB : TB} {rest : List Expr}
theorem we_var {i : Nat} (h : PE X e (L2.tVar i)) : WE X K CA W e (L2.tVar i) (dVar i) := ⟨h, fun m h H σ ρ Q' S t => by
  unfold dVar at t
  split at t
  · rename_i d e1
    obtain ⟨v, e2, r⟩ := S.sl i _ e1
    exact ⟨v, e2, t.here S.hr r⟩
  · exact t.elim⟩
theorem we_int {i j} : WE X K CA W (.Constant (.int i) j pos) (L2.tC (.int i)) (dC (.int i)) := ⟨pe_int, fun m h H σ ρ Q' S t => t.here S.hr (.int i)⟩
theorem we_bl {i j} : WE X K CA W (.Constant (.bool i) j pos) (L2.tC (.bl i)) (dC (.bl i)) := ⟨pe_bl, fun m h H σ ρ Q' S t => t.here S.hr (.bl i)⟩
theorem we_non {j} : WE X K CA W (.Constant .none j pos) (L2.tC .non) (dC .non) := ⟨pe_non, fun m h H σ ρ Q' S t => t.here S.hr .non⟩
theorem we_str {x j} : WE X K CA W (.Constant (.str x) j pos) (L2.tC (.str x)) (dC (.str x)) := ⟨pe_str, fun m h H σ ρ Q' S t => t.here S.hr (.str x)⟩
/-- a built-in type as a value -/
theorem we_ty {n : String} (h : PE X e (L2.tC (.ty n))) : WE X K CA W e (L2.tC (.ty n)) (dC (.ty n)) := ⟨h, fun m h H σ ρ Q' S t => t.here S.hr (.ty n)⟩
/-- an own class, a def as a value -/
theorem we_cls {n : Nat} (h : PE X e (L2.tC (.ref (CA n)))) : WE X K CA W e (L2.tC (.ref (CA n))) (dC (.cls n)) := ⟨h, fun m h H σ ρ Q' S t => t.here S.hr (.cls n)⟩
theorem sim_op {r : R2} {f : F2} {tH tH' : TE} (hs : SimR K CA r f) (ha : SimE K CA W tH ta) (hb : SimE K CA W tH' tb) : SimE K CA W (L2.tOp r tH tH') (dOp f ta tb) :=
  fun m h H σ ρ Q' S t => ha m h H σ ρ _ S (t.bind fun x h1 m1 v H1 s1 S1 r1 t1 =>
    hb m1 h1 H1 σ ρ _ (S.move s1 S1) (t1.bind fun y h2 m2 w H2 s2 S2 r2 t2 => hs W σ m2 h2 H2 v w x y Q' S2 (r1.move s2) r2 t2))
theorem we_op {op : Operator} {r : R2} {f : F2} (ho : OpR X (binaryOp op) r) (s : SimR K CA r f) (xa : WE X K CA W a ha ta) (xb : WE X K CA W b hb tb) : WE X K CA W (.BinOp a op b pos) (L2.tOp r ha hb) (dOp f ta tb) :=
  ⟨pe_op ho xa.pe xb.pe, sim_op s xa.sim xb.sim⟩
theorem we_cmp {op : CmpOp} {r : R2} {f : F2} (ho : OpR X (compareOp op) r) (s : SimR K CA r f) (xa : WE X K CA W a ha ta) (xb : WE X K CA W b hb tb) (hm : behindInMarks op b = false) : WE X K CA W (.Compare a [op] [b] pos) (L2.tOp r ha hb) (dOp f ta tb) :=
  ⟨pe_cmpR ho xa.pe xb.pe hm, sim_op s xa.sim xb.sim⟩
theorem asB_inv {m : Mp} {h : CH} {H : Hp} {σ : L2.St} {x : D} {v : V} {Q : Bool → Hp → Prop} (r : Rp K CA m h H v x) (S : HR K CA m h H) (t : PostT K CA W m h H σ Q (asB x h)) : ∃ b, x = .bl b ∧ v = .bl b ∧ Q b H := by
  cases r <;> first
    | exact t.elim
    | exact ⟨_, rfl, rfl, t.here S rfl⟩
theorem sim_B {tH : TE} (h : SimE K CA W tH ta) : SimT K CA W (fun σ H Q => tH σ H fun x H' => ∃ k, x = .bl k ∧ Q k H') (dB ta) := fun m hh H σ ρ Q' S t =>
  h m hh H σ ρ _ S (t.bind fun x h1 m1 v H1 s1 S1 r1 t1 => by
    obtain ⟨b, _, e, q⟩ := asB_inv r1 S1 t1
    exact ⟨b, e, q⟩)
theorem wt_cmp {op : CmpOp} {r : R2} {f : F2} (ho : OpR X (compareOp op) r) (s : SimR K CA r f) (xa : WE X K CA W a ha ta) (xb : WE X K CA W b hb tb) (hm : behindInMarks op b = false) : WT X K CA W (.Compare a [op] [b] pos) (tTest (L2.tOp r ha hb)) (dB (dOp f ta tb)) :=
  ⟨pt_cmpR ho xa.pe xb.pe hm, sim_B (sim_op s xa.sim xb.sim)⟩
theorem wt_val (h : WE X K CA W e ha ta) (he : ∀ whole, isTrue e X.env whole = (do let v ← whole; standAt e.pos; holding [v] (truthy v)) := by intro _; rfl) : WT X K CA W e (L2.tB ha) (dB ta) := ⟨pt_val h.pe he, sim_B h.sim⟩
theorem asB_bind {α β : Type} {RR : Mp → CH → Hp → β → α → Prop} {m : Mp} {h : CH} {H : Hp} {σ : L2.St} {x : D} {v : V} {Q : β → Hp → Prop} {k : Bool → CH → R α} (r : Rp K CA m h H v x) (t : PostG K CA W RR m h H σ Q ((asB x h).bind k)) : ∃ b, x = .bl b ∧ v = .bl b ∧ PostG K CA W RR m h H σ Q (k b h) := by
  cases r <;> first
    | exact t.elim
    | exact ⟨_, rfl, rfl, t⟩
theorem sim_chain {r r' : R2} {f f' : F2} {t1 t2 t3 : TE} (hs : SimR K CA r f) (hs' : SimR K CA r' f') (ha : SimE K CA W t1 ta) (hb : SimE K CA W t2 tb) (hc : SimE K CA W t3 tc) :
    SimE K CA W (L2.tChain r r' t1 t2 t3) (dChain f f' ta tb tc) :=
  fun m h H σ ρ Q' S t => ha m h H σ ρ _ S (t.bind fun x h1 m1 v H1 s1 S1 r1 t1 =>
    hb m1 h1 H1 σ ρ _ (S.move s1 S1) (t1.bind fun y h2 m2 w H2 s2 S2 r2 t2 => hs W σ m2 h2 H2 v w x y _ S2 (r1.move s2) r2 (t2.bind fun z h3 m3 u H3 s3 S3 r3 t3 => by
      obtain ⟨k, rfl, e, t4⟩ := asB_bind r3 t3
      refine ⟨k, e, ?_⟩
      cases k with
      | true => exact hc m3 h3 H3 σ ρ _ (((S.move s1 S1).move s2 S2).move s3 S3) (t4.bind fun q h4 m4 q' H4 s4 S4 r4 t5 => hs' W σ m4 h4 H4 w q' y q Q' S4 ((r2.move s3).move s4) r4 t5)
      | false => exact t4.here S3 (.bl false))))
theorem we_chain {op op' : CmpOp} {r r' : R2} {f f' : F2} (s : SimR K CA r f) (s' : SimR K CA r' f') (xa : WE X K CA W a ha ta) (xb : WE X K CA W b hb tb) (xc : WE X K CA W c hc tc)
    (h : PE X a ha → PE X b hb → PE X c hc → PE X (.Compare a [op, op'] [b, c] pos) (L2.tChain r r' ha hb hc)) : WE X K CA W (.Compare a [op, op'] [b, c] pos) (L2.tChain r r' ha hb hc) (dChain f f' ta tb tc) :=
  ⟨h xa.pe xb.pe xc.pe, sim_chain s s' xa.sim xb.sim xc.sim⟩
theorem wt_chain {op op' : CmpOp} {r r' : R2} {f f' : F2} (s : SimR K CA r f) (s' : SimR K CA r' f') (xa : WE X K CA W a ha ta) (xb : WE X K CA W b hb tb) (xc : WE X K CA W c hc tc)
    (h : PE X a ha → PE X b hb → PE X c hc → PT X (.Compare a [op, op'] [b, c] pos) (tTest (L2.tChain r r' ha hb hc))) : WT X K CA W (.Compare a [op, op'] [b, c] pos) (tTest (L2.tChain r r' ha hb hc)) (dB (dChain f f' ta tb tc)) :=
  ⟨h xa.pe xb.pe xc.pe, sim_B (sim_chain s s' xa.sim xb.sim xc.sim)⟩
theorem WW.wt (h : WW X K CA W e hA tA) : WT X K CA W e hA tA := ⟨h.pe.pt, h.sim⟩
theorem ww_and1 (h : WT X K CA W a hA tA) : WW X K CA W (.BoolOp .And [a] pos) hA tA := ⟨pw_and1 h.pe, h.sim⟩
theorem ww_or1 (h : WT X K CA W a hA tA) : WW X K CA W (.BoolOp .Or [a] pos) hA tA := ⟨pw_or1 h.pe, h.sim⟩
theorem ww_and (h : WT X K CA W a hA tA) (h' : WW X K CA W (.BoolOp .And (b :: rest) pos) hB tB) : WW X K CA W (.BoolOp .And (a :: b :: rest) pos) (L2.tAnd hA hB) (dAnd tA tB) := by
  refine ⟨pw_and h.pe h'.pe, fun m hh H σ ρ Q' S t => h.sim m hh H σ ρ _ S (t.bind fun k h1 m1 k' H1 s1 S1 r1 t1 => ?_)⟩
  cases (show k' = k from r1)
  cases k with
  | true => exact h'.sim m1 h1 H1 σ ρ Q' (S.move s1 S1) t1
  | false => exact t1.here S1 rfl
theorem ww_or (h : WT X K CA W a hA tA) (h' : WW X K CA W (.BoolOp .Or (b :: rest) pos) hB tB) : WW X K CA W (.BoolOp .Or (a :: b :: rest) pos) (L2.tOr hA hB) (dOr tA tB) := by
  refine ⟨pw_or h.pe h'.pe, fun m hh H σ ρ Q' S t => h.sim m hh H σ ρ _ S (t.bind fun k h1 m1 k' H1 s1 S1 r1 t1 => ?_)⟩
  cases (show k' = k from r1)
  cases k with
  | false => exact h'.sim m1 h1 H1 σ ρ Q' (S.move s1 S1) t1
  | true => exact t1.here S1 rfl
theorem wt_not (h : WT X K CA W a hA tA) : WT X K CA W (.UnaryOp .Not a pos) (L2.tNot hA) (dNot tA) :=
  ⟨pt_not h.pe, fun m hh H σ ρ Q' S t => h.sim m hh H σ ρ _ S (t.bind fun k h1 m1 k' H1 s1 S1 r1 t1 => by
    cases (show k' = k from r1)
    exact t1.here S1 rfl)⟩
theorem we_one {op} (h : WE X K CA W a ha ta) : WE X K CA W (.BoolOp op [a] pos) ha ta := ⟨pe_one h.pe, h.sim⟩
theorem we_and (h : WE X K CA W a ha ta) (h' : WE X K CA W (.BoolOp .And (b :: rest) pos) hb tb) : WE X K CA W (.BoolOp .And (a :: b :: rest) pos) (L2.tAndV ha hb) (dAndV ta tb) := by
  refine ⟨pe_and h.pe h'.pe, fun m hh H σ ρ Q' S t => h.sim m hh H σ ρ _ S (t.bind fun x h1 m1 v H1 s1 S1 r1 t1 => ?_)⟩
  obtain ⟨k, rfl, e, t2⟩ := asB_bind r1 t1
  refine ⟨k, e, ?_⟩
  cases k with
  | true => exact h'.sim m1 h1 H1 σ ρ Q' (S.move s1 S1) t2
  | false => exact t2.here S1 (.bl false)
theorem we_or (h : WE X K CA W a ha ta) (h' : WE X K CA W (.BoolOp .Or (b :: rest) pos) hb tb) : WE X K CA W (.BoolOp .Or (a :: b :: rest) pos) (L2.tOrV ha hb) (dOrV ta tb) := by
  refine ⟨pe_or h.pe h'.pe, fun m hh H σ ρ Q' S t => h.sim m hh H σ ρ _ S (t.bind fun x h1 m1 v H1 s1 S1 r1 t1 => ?_)⟩
  obtain ⟨k, rfl, e, t2⟩ := asB_bind r1 t1
  refine ⟨k, e, ?_⟩
  cases k with
  | false => exact h'.sim m1 h1 H1 σ ρ Q' (S.move s1 S1) t2
  | true => exact t2.here S1 (.bl true)
theorem we_not (h : WE X K CA W a ha ta) : WE X K CA W (.UnaryOp .Not a pos) (L2.tNotV ha) (dNotV ta) := by
  refine ⟨pe_not h.pe, fun m hh H σ ρ Q' S t => h.sim m hh H σ ρ _ S (t.bind fun x h1 m1 v H1 s1 S1 r1 t1 => ?_)⟩
  obtain ⟨k, rfl, e, t2⟩ := asB_bind r1 t1
  exact ⟨k, e, t2.here S1 (.bl _)⟩
theorem we_ifExp (h0 : WT X K CA W c hA tA) (h : WE X K CA W a ha ta) (h' : WE X K CA W b hb tb) : WE X K CA W (.IfExp c a b pos) (L2.tIf hA ha hb) (dIf tA ta tb) := by
  refine ⟨pe_ifExp h0.pe h.pe h'.pe, fun m hh H σ ρ Q' S t => h0.sim m hh H σ ρ _ S (t.bind fun k h1 m1 k' H1 s1 S1 r1 t1 => ?_)⟩
  cases (show k' = k from r1)
  cases k with
  | true => exact h.sim m1 h1 H1 σ ρ Q' (S.move s1 S1) t1
  | false => exact h'.sim m1 h1 H1 σ ρ Q' (S.move s1 S1) t1
theorem wa_nil : WA X K CA W [] L2.tNil dNil := ⟨pa_nil, fun m h H σ ρ Q' S t => t.here S.hr .nil⟩
theorem sim_cons (h : SimE K CA W ha ta) (h' : SimA K CA W hs ts) : SimA K CA W (L2.tCons ha hs) (dCons ta ts) := fun m hh H σ ρ Q' S t =>
  h m hh H σ ρ _ S (t.bind fun x h1 m1 v H1 s1 S1 r1 t1 => h' m1 h1 H1 σ ρ _ (S.move s1 S1) (t1.bind fun xs h2 m2 vs H2 s2 S2 r2 t2 => t2.here S2 (.cons (r1.move s2) r2)))
theorem wa_cons (h : WE X K CA W e ha ta) (h' : WA X K CA W es hs ts) (hst : starEach (e :: es) X.env = (false, eval e X.env) :: starEach es X.env := by rfl) : WA X K CA W (e :: es) (L2.tCons ha hs) (dCons ta ts) :=
  ⟨pa_cons h.pe h'.pe hst, sim_cons h.sim h'.sim⟩
theorem post_ite {α β : Type} {RR : Mp → CH → Hp → β → α → Prop} {m : Mp} {h : CH} {H : Hp} {σ : L2.St} {Q : β → Hp → Prop} {c : Prop} [Decidable c] {r : R α} (t : PostG K CA W RR m h H σ Q (if c then r else .no)) : c ∧ PostG K CA W RR m h H σ Q r := by
  by_cases q : c
  · rw [if_pos q] at t; exact ⟨q, t⟩
  · rw [if_neg q] at t; exact t.elim
theorem we_tup {x1} (h : WA X K CA W es hs ts) : WE X K CA W (.Tuple es x1 pos) (L2.tTup hs) (dTup ts) := by
  refine ⟨pe_tup h.pe, fun m hh H σ ρ Q' S t => h.sim m hh H σ ρ _ S (t.bind fun xs h1 m1 vs H1 s1 S1 r1 t1 => ?_)⟩
  obtain ⟨l, t1⟩ := post_ite t1
  exact ⟨by rw [r1.length]; exact l, fun p n => t1.laid S1 n (.tup (S1.fresh n) upd_same (rps_laid S1 n r1))⟩
theorem we_lst (nm : Bool) (h : WA X K CA W es hs ts) : WE X K CA W (.List es pos) (L2.tLst hs) (dLst nm ts) := by
  refine ⟨pe_lst h.pe, fun m hh H σ ρ Q' S t => h.sim m hh H σ ρ _ S (t.bind fun xs h1 m1 vs H1 s1 S1 r1 t1 => ?_)⟩
  obtain ⟨l, t1⟩ := post_ite t1
  exact ⟨by rw [r1.length]; exact l, fun p n => mkL_post S1 n r1 t1⟩
theorem sim_CB {r : List V → Hp → VK → Prop} {f : FD} {tH : TA} (hs : SimC K CA r f) (ha : SimA K CA W tH ts) : SimE K CA W (tCB r tH) (dCB f ts) := fun m h H σ ρ Q' S t =>
  ha m h H σ ρ _ S (t.bind fun xs h1 m1 vs H1 s1 S1 r1 t1 => hs W σ m1 h1 H1 vs xs Q' S1 r1 t1)
/-- a built-in's call: its own rule h -/
theorem we_cb {r : List V → Hp → VK → Prop} {f : FD} (s : SimC K CA r f) (x : WA X K CA W es hs ts) (h : PA X es hs → PE X e (tCB r hs)) : WE X K CA W e (tCB r hs) (dCB f ts) := ⟨h x.pe, sim_CB s x.sim⟩
theorem we_ix {r : R2} {f : F2} (hr : IxR X r) (s : SimR K CA r f) (xa : WE X K CA W a ha ta) (xb : WE X K CA W b hb tb) (hp : PlainIx b := by exact fun _ _ => rfl) : WE X K CA W (.Subscript a b pos) (L2.tOp r ha hb) (dOp f ta tb) :=
  ⟨pe_ix hr xa.pe xb.pe hp, sim_op s xa.sim xb.sim⟩
/-! ### a named object is given free: from here on it is data -/
def fz : D → CH → R D
  | .ref k, h => match h.ob k with
    | some (.lst ds) => .ok (.lst ds) (h.del k)
    | some (.dct kvs) => .ok (.dct kvs) (h.del k)
    | some (.obj c fs) => .ok (.obj c fs) (h.del k)
    | _ => .no
  | _, _ => .no
/-- .. if it is one -/
def fzI : D → CH → R D
  | .ref k, h => fz (.ref k) h
  | d, h => .ok d h
theorem fz_post {m : Mp} {h : CH} {H : Hp} {σ : L2.St} {v : V} {x : D} {Q' : VK} (S : HR K CA m h H) (r : Rp K CA m h H v x) (t : PostE K CA W m h H σ Q' (fz x h)) : Q' v H := by
  cases r with
  | @ref k l =>
    unfold fz at t
    simp only at t
    have nl : ∀ o, h.ob k = some o → ¬ Live m (h.del k) (m k) := fun o e z => (live_del S e z).2 rfl
    split at t
    · rename_i ds e
      have x := (S.ob k _ e).2
      cases x with
      | lst q r => exact t m _ H (stp_del S e trivial) (S.del e trivial) (.lst (nl _ e) q (r.move (stp_del S e trivial)))
    · rename_i ds e
      have x := (S.ob k _ e).2
      cases x with
      | dct q en r => exact t m _ H (stp_del S e trivial) (S.del e trivial) (.dct (nl _ e) q rfl en (r.move (stp_del S e trivial)))
    · rename_i c ds e
      have x := (S.ob k _ e).2
      cases x with
      | obj q en r => exact t m _ H (stp_del S e trivial) (S.del e trivial) (.obj (nl _ e) q en (r.move (stp_del S e trivial)))
    · exact t.elim
  | _ => exact t.elim
theorem fzI_post {m : Mp} {h : CH} {H : Hp} {σ : L2.St} {v : V} {x : D} {Q' : VK} (S : HR K CA m h H) (r : Rp K CA m h H v x) (t : PostE K CA W m h H σ Q' (fzI x h)) : Q' v H := by
  cases r with
  | ref l => exact fz_post S (.ref l) t
  | lst n e r => exact t.here S (.lst n e r)
  | tup n e r => exact t.here S (.tup n e r)
  | ktup e r => exact t.here S (.ktup e r)
  | dct n e c en r => exact t.here S (.dct n e c en r)
  | obj n e en r => exact t.here S (.obj n e en r)
  | scr n e => exact t.here S (.scr n e)
  | kscr e => exact t.here S (.kscr e)
  | non => exact t.here S .non
  | bl b => exact t.here S (.bl b)
  | int b => exact t.here S (.int b)
  | str b => exact t.here S (.str b)
  | ty b => exact t.here S (.ty b)
  | cls b => exact t.here S (.cls b)
theorem we_fz (h : WE X K CA W e ha ta) : WE X K CA W e ha (dUn fz ta) := ⟨h.pe, fun m hh H σ ρ Q' S t => h.sim m hh H σ ρ Q' S (t.bind fun x h1 m1 v H1 s1 S1 r1 t1 => fz_post S1 r1 t1)⟩
theorem we_fzI (h : WE X K CA W e ha ta) : WE X K CA W e ha (dUn fzI ta) := ⟨h.pe, fun m hh H σ ρ Q' S t => h.sim m hh H σ ρ Q' S (t.bind fun x h1 m1 v H1 s1 S1 r1 t1 => fzI_post S1 r1 t1)⟩
end
end CM
namespace CM
open PySem PySem.Spec PyProof.Rows L2

/-! ### what a value holds -/
def lstOf (h : CH) : D → Option (List D)
  | .lst ds => some ds
  | .ref k => match h.ob k with
    | some (.lst ds) => some ds
    | some (.lkl ds) => some ds
    | _ => none
  | _ => none
def seqOf (h : CH) : D → Option (List D)
  | .lst ds => some ds
  | .tup ds => some ds
  | .ref k => match h.ob k with
    | some (.lst ds) => some ds
    | some (.lkl ds) => some ds
    | _ => none
  | _ => none
def dctOf (h : CH) : D → Option (List (Key × D))
  | .dct kvs => some kvs
  | .ref k => match h.ob k with
    | some (.dct kvs) => some kvs
    | some (.lck kvs) => some kvs
    | _ => none
  | _ => none
def flatD : D → Bool
  | .non | .bl _ | .int _ | .str _ => true
  | _ => false
def eqF : D → D → Bool
  | .non, .non => true
  | .bl a, .bl b => a == b
  | .bl a, .int j => (if a then 1 else 0) == j
  | .int i, .bl b => i == (if b then 1 else 0)
  | .int i, .int j => i == j
  | .str x, .str y => x == y
  | _, _ => false
/-- flat data that == tells apart by kind and value -/
def scalD : D → D → Bool
  | .int _, .bl _ => false
  | .bl _, .int _ => false
  | x, y => flatD x && flatD y
/-- as the library's data -/
def toP (h : CH) : Nat → D → Option PyData
  | 0, _ => none
  | n + 1, d => match d with
    | .non => some .none
    | .bl b => some (.bool b)
    | .int i => some (.int i)
    | .str x => some (.str x)
    | .lst xs => (xs.mapM (toP h n)).map .list
    | .tup xs => (xs.mapM (toP h n)).map .tuple
    | .ref k => match h.ob k with
      | some (.lst xs) => (xs.mapM (toP h n)).map .list
      | _ => none
    | _ => none
def keyD : D → Option Key
  | .int i => some (.inl i)
  | .str x => some (.inr x)
  | _ => none
def dGet (kvs : List (Key × D)) (k : Key) : Option D := (kvs.find? fun kv => decide (kv.1 = k)).map (·.2)
def dPut (ps : List (Key × D)) (k : Key) (d : D) : List (Key × D) :=
  if (ps.any fun p => decide (p.1 = k)) = true then ps.map (fun p => if p.1 = k then (p.1, d) else p)
  else ps ++ [(k, d)]

section
variable {K : PySem.W.Frag} {CA : Nat → Addr} {m : Mp} {h : CH} {H : Hp} {v : V} {d : D}
theorem sq_emp {a : Addr} {xs : List V} (h : SqT K (fun _ => none) a xs) : SqT K H a xs := by
  rcases h with h | h
  · rcases h with h | ⟨o, h⟩ <;> cases h
  · exact .inr h
theorem sl_emp {a : Addr} {xs : List V} (h : SqL K (fun _ => none) a xs) : SqL K H a xs := by
  rcases h with h | h
  · rcases h with h | ⟨o, h⟩ <;> cases h
  · exact .inr h
theorem rp_lst (S : HR K CA m h H) {ds : List D} (r : Rp K CA m h H v d) (e : lstOf h d = some ds) : ∃ a xs, v = .ref a ∧ H a = some (.lst xs) ∧ RpAll K CA m h H xs ds := by
  cases r with
  | lst n e1 r => cases e; exact ⟨_, _, rfl, e1, r⟩
  | ref l =>
    simp only [lstOf] at e
    split at e
    · rename_i q
      cases e
      have x := (S.ob _ _ q).2
      cases x with
      | lst e1 r => exact ⟨_, _, rfl, e1, r⟩
    · rename_i q
      cases e
      have x := (S.ob _ _ q).2
      cases x with
      | lkl e1 r => exact ⟨_, _, rfl, e1, r⟩
    · cases e
  | _ => cases e
theorem rp_tup {ds : List D} (r : Rp K CA m h H v (.tup ds)) : ∃ a xs, v = .ref a ∧ SqT K H a xs ∧ RpAll K CA m h H xs ds := by
  cases r with
  | tup n e r => exact ⟨_, _, rfl, .of e, r⟩
  | ktup e r => exact ⟨_, _, rfl, sq_emp e, r⟩
theorem rp_seq (S : HR K CA m h H) {ds : List D} (r : Rp K CA m h H v d) (e : seqOf h d = some ds) : ∃ a xs, v = .ref a ∧ (SqL K H a xs ∨ SqT K H a xs) ∧ RpAll K CA m h H xs ds := by
  cases d with
  | tup es =>
    cases e
    obtain ⟨a, xs, e1, e2, r2⟩ := rp_tup r
    exact ⟨a, xs, e1, .inr e2, r2⟩
  | lst es =>
    obtain ⟨a, xs, e1, e2, r2⟩ := rp_lst S r (show lstOf h (.lst es) = some ds from e)
    exact ⟨a, xs, e1, .inl (.of e2), r2⟩
  | ref k =>
    obtain ⟨a, xs, e1, e2, r2⟩ := rp_lst S r (show lstOf h (.ref k) = some ds from e)
    exact ⟨a, xs, e1, .inl (.of e2), r2⟩
  | _ => cases e
theorem rp_dct (S : HR K CA m h H) {ds : List (Key × D)} (r : Rp K CA m h H v d) (e : dctOf h d = some ds) : ∃ a o kvs, v = .ref a ∧ H a = some o ∧ core o = .dK kvs ∧ kvs.map (·.1) = ds.map (·.1) ∧ RpAll K CA m h H (kvs.map (·.2)) (ds.map (·.2)) := by
  cases r with
  | dct n e1 c en r => cases e; exact ⟨_, _, _, rfl, e1, c, en, r⟩
  | ref l =>
    simp only [dctOf] at e
    split at e
    · rename_i q
      cases e
      have x := (S.ob _ _ q).2
      cases x with
      | dct e1 en r => exact ⟨_, _, _, rfl, e1, rfl, en, r⟩
    · rename_i q
      cases e
      have x := (S.ob _ _ q).2
      cases x with
      | lck e1 en r => exact ⟨_, _, _, rfl, e1, rfl, en, r⟩
    · cases e
  | _ => cases e
theorem dget_core {a : Addr} {o : HO} {kvs : List (Key × V)} {k : Key} (e : H a = some o) (c : core o = .dK kvs) : DGet H a (kV k) (valV kvs k) := by
  rcases core_dK c with rfl | ⟨ob, rfl⟩
  · exact .inl ⟨kvs, k, .inl e, rfl, rfl⟩
  · exact .inl ⟨kvs, k, .inr ⟨ob, e⟩, rfl, rfl⟩
theorem rp_key {y : D} {k : Key} (r : Rp K CA m h H v y) (e : keyD y = some k) : v = kV k := by
  cases r <;> first | (cases e; rfl) | cases e
theorem rp_flat (r : Rp K CA m h H v d) (f : flatD d = true) : flatV v = true := by cases r <;> first | rfl | cases f
theorem rp_flats {vs : List V} {ds : List D} (r : RpAll K CA m h H vs ds) (f : ds.all flatD = true) : vs.all flatV = true := by
  induction vs generalizing ds with
  | nil => rfl
  | cons x vs ih => cases r with
    | cons h1 h2 =>
      rw [List.all_cons, Bool.and_eq_true] at f ⊢
      exact ⟨rp_flat h1 f.1, ih h2 f.2⟩
theorem rp_eqV {y x : V} {e c : D} (r : Rp K CA m h H y e) (r' : Rp K CA m h H x c) (f : flatD e = true) (f' : flatD c = true) : eqV y x = eqF e c := by
  cases r <;> first
    | (cases f; done)
    | (cases r' <;> first | rfl | (cases f'; done))
theorem rp_inV {x : V} {c : D} {vs : List V} {ds : List D} (r : RpAll K CA m h H vs ds) (r' : Rp K CA m h H x c) (f : ds.all flatD = true) (f' : flatD c = true) : inV x vs = ds.any fun e => eqF e c := by
  unfold inV
  induction vs generalizing ds with
  | nil => cases r; rfl
  | cons y vs ih => cases r with
    | cons h1 h2 =>
      rw [List.all_cons, Bool.and_eq_true] at f
      rw [List.any_cons, List.any_cons, ih h2 f.2, rp_eqV h1 r' f.1 f']
theorem rp_scal {y x : V} {e c : D} (r : Rp K CA m h H y e) (r' : Rp K CA m h H x c) (s : scalD e c = true) : scal y x = true ∧ decide (y = x) = eqF e c := by
  cases r <;> first
    | (cases r' <;> first
      | exact ⟨rfl, rfl⟩
      | exact ⟨rfl, dec_int⟩
      | exact ⟨rfl, dec_bl⟩
      | exact ⟨rfl, dec_str⟩
      | cases s)
    | (cases s; done)
    | (cases c <;> cases s; done)
theorem rp_dget {k : Key} : ∀ {kvs : List (Key × V)} {ds : List (Key × D)}, kvs.map (·.1) = ds.map (·.1) → RpAll K CA m h H (kvs.map (·.2)) (ds.map (·.2)) →
    (∃ v d, valV kvs k = some v ∧ dGet ds k = some d ∧ Rp K CA m h H v d) ∨ (valV kvs k = none ∧ dGet ds k = none)
  | [], [], _, _ => .inr ⟨rfl, rfl⟩
  | [], _ :: _, e, _ => by simp at e
  | _ :: _, [], e, _ => by simp at e
  | p :: kvs, q :: ds, e, r => by
    obtain ⟨pk, pv⟩ := p
    obtain ⟨qk, qv⟩ := q
    simp only [List.map_cons, List.cons.injEq] at e
    obtain ⟨e1, e2⟩ := e
    subst e1
    cases r with
    | cons r1 r2 =>
      by_cases h : pk = k
      · subst h
        exact .inl ⟨pv, qv, by simp [valV], by simp [dGet], r1⟩
      · rcases rp_dget (k := k) e2 r2 with ⟨v, d, h1, h2, h3⟩ | ⟨h1, h2⟩
        · exact .inl ⟨v, d, by rw [valV_neg h]; exact h1, by simp only [dGet, List.find?_cons, decide_eq_false h]; exact h2, h3⟩
        · exact .inr ⟨by rw [valV_neg h]; exact h1, by simp only [dGet, List.find?_cons, decide_eq_false h]; exact h2⟩
theorem keys_any {κ α β : Type} {k : κ} [DecidableEq κ] : ∀ {kvs : List (κ × α)} {ds : List (κ × β)}, kvs.map (·.1) = ds.map (·.1) → (kvs.any fun kv => decide (kv.1 = k)) = (ds.any fun kv => decide (kv.1 = k))
  | [], [], _ => rfl
  | [], _ :: _, e => by simp at e
  | _ :: _, [], e => by simp at e
  | p :: kvs, q :: ds, e => by
    simp only [List.map_cons, List.cons.injEq] at e
    rw [List.any_cons, List.any_cons, e.1, keys_any e.2]
theorem rp_dput {k : Key} {kvs : List (Key × V)} {ds : List (Key × D)} (e : kvs.map (·.1) = ds.map (·.1)) (r : RpAll K CA m h H (kvs.map (·.2)) (ds.map (·.2))) (r' : Rp K CA m h H v d) :
    (putK kvs k v).map (·.1) = (dPut ds k d).map (·.1) ∧ RpAll K CA m h H ((putK kvs k v).map (·.2)) ((dPut ds k d).map (·.2)) := by
  unfold putK dPut
  rw [keys_any e]
  by_cases q : (ds.any fun kv => decide (kv.1 = k)) = true
  · rw [if_pos q, if_pos q]
    clear q
    induction kvs generalizing ds with
    | nil => cases ds with
      | nil => exact ⟨rfl, .nil⟩
      | cons => simp at e
    | cons p kvs ih => cases ds with
      | nil => simp at e
      | cons q ds =>
        simp only [List.map_cons, List.cons.injEq] at e
        cases r with
        | cons r1 r2 =>
          obtain ⟨i1, i2⟩ := ih e.2 r2
          simp only [List.map_cons]
          by_cases hk : q.1 = k
          · rw [if_pos (e.1.trans hk), if_pos hk]
            exact ⟨by rw [i1, e.1], .cons r' i2⟩
          · rw [if_neg (fun z => hk (e.1.symm.trans z)), if_neg hk]
            exact ⟨by rw [i1, e.1], .cons r1 i2⟩
  · rw [if_neg q, if_neg q]
    simp only [List.map_append, List.map_cons, List.map_nil]
    exact ⟨by rw [e], r.append (.cons r' .nil)⟩
theorem dPut_length (ds : List (Key × D)) (k : Key) (d : D) : (dPut ds k d).length ≤ ds.length + 1 := by
  unfold dPut
  split <;> simp
/-! ### data as the library's -/
theorem rp_dps_of {f : D → Option PyData} (ih : ∀ (d : D) (v : V) (p : PyData), Rp K CA m h H v d → f d = some p → Dp K H v p) : ∀ (ds : List D) (vs : List V) (ps : List PyData), RpAll K CA m h H vs ds → ds.mapM f = some ps → DpAll K H vs ps
  | [], _, _, r, e => by cases r; simp at e; subst e; exact .nil
  | d :: ds, _, _, r, e => by
    cases r with
    | cons h1 h2 =>
      simp only [List.mapM_cons, Option.bind_eq_bind, Option.bind_eq_some_iff, Option.pure_def, Option.some.injEq] at e
      obtain ⟨p, e1, ps, e2, rfl⟩ := e
      exact .cons (ih d _ p h1 e1) (rp_dps_of ih ds _ ps h2 e2)
theorem rp_dp (S : HR K CA m h H) : ∀ (n : Nat) (d : D) (v : V) (p : PyData), Rp K CA m h H v d → toP h n d = some p → Dp K H v p
  | 0, d, _, _, _, e => by cases d <;> cases e
  | n + 1, .non, _, _, r, e => by cases r; simp only [toP, Option.some.injEq] at e; subst e; exact .non
  | n + 1, .bl b, _, _, r, e => by cases r; simp only [toP, Option.some.injEq] at e; subst e; exact .bl b
  | n + 1, .int b, _, _, r, e => by cases r; simp only [toP, Option.some.injEq] at e; subst e; exact .int b
  | n + 1, .str b, _, _, r, e => by cases r; simp only [toP, Option.some.injEq] at e; subst e; exact .str b
  | n + 1, .lst ds, _, _, r, e => by
    simp only [toP, Option.map_eq_some_iff] at e
    obtain ⟨ps, e1, rfl⟩ := e
    obtain ⟨a, xs, rfl, e2, r2⟩ := rp_lst S r rfl
    exact .lst (.of e2) (rp_dps_of (rp_dp S n) ds xs ps r2 e1)
  | n + 1, .tup ds, _, _, r, e => by
    simp only [toP, Option.map_eq_some_iff] at e
    obtain ⟨ps, e1, rfl⟩ := e
    obtain ⟨a, xs, rfl, e2, r2⟩ := rp_tup r
    exact .tup e2 (rp_dps_of (rp_dp S n) ds xs ps r2 e1)
  | n + 1, .ref k, _, _, r, e => by
    simp only [toP] at e
    split at e
    · rename_i ds q
      simp only [Option.map_eq_some_iff] at e
      obtain ⟨ps, e1, rfl⟩ := e
      obtain ⟨a, xs, rfl, e2, r2⟩ := rp_lst S r (show lstOf h (.ref k) = some ds by simp only [lstOf, q])
      exact .lst (.of e2) (rp_dps_of (rp_dp S n) ds xs ps r2 e1)
    · cases e
  | n + 1, .dct _, _, _, _, e => by simp [toP] at e
  | n + 1, .obj _ _, _, _, _, e => by simp [toP] at e
  | n + 1, .scr _, _, _, _, e => by simp [toP] at e
  | n + 1, .ty _, _, _, _, e => by simp [toP] at e
  | n + 1, .cls _, _, _, _, e => by simp [toP] at e
end

/-! ### operations -/
instance {i j : Int} : Decidable (CMul i j) := by unfold CMul; infer_instance
instance {i j : Int} : Decidable (CDiv i j) := by unfold CDiv; infer_instance
instance {i j : Int} : Decidable (CPow i j) := by unfold CPow; infer_instance
/-- + -/
def fAdd (nm : Bool) : F2 := fun x y h => match x, y with
  | .int i, .int j => .ok (.int (i + j)) h
  | .str a, .str b => if a.length + b.length ≤ sizeLine then .ok (.str (a ++ b)) h else .no
  | .tup a, .tup b => if a ≠ [] ∧ a.length + b.length ≤ sizeLine then .ok (.tup (a ++ b)) h else .no
  | x, y => match lstOf h x, lstOf h y with
    | some a, some b => if a.length + b.length ≤ sizeLine then mkL nm (a ++ b) h else .no
    | _, _ => .no
def fSubI : F2 := fun x y h => match x, y with
  | .int i, .int j => .ok (.int (i - j)) h
  | _, _ => .no
def fMul (nm : Bool) : F2 := fun x y h => match x, y with
  | .int i, .int j => if CMul i j then .ok (.int (i * j)) h else .no
  | x, .int k => match lstOf h x with
    | some ds => if -(2 ^ 63) ≤ k ∧ k < 2 ^ 63 ∧ ds.length * k.toNat ≤ sizeLine then mkL nm (List.replicate k.toNat ds).flatten h else .no
    | none => .no
  | _, _ => .no
def fDiv : F2 := fun x y h => match x, y with
  | .int i, .int j => if CDiv i j then .ok (.int (i / j)) h else .no
  | _, _ => .no
def fMod : F2 := fun x y h => match x, y with
  | .int i, .int j => if 0 < j then .ok (.int (i % j)) h else .no
  | _, _ => .no
def fPow : F2 := fun x y h => match x, y with
  | .int i, .int j => if CPow i j then .ok (.int (i ^ j.toNat)) h else .no
  | _, _ => .no
def fB (f : Int → Int → Bool) : F2 := fun x y h => match x, y with
  | .int i, .int j => .ok (.bl (f i j)) h
  | _, _ => .no
def bneg (neg b : Bool) : Bool := if neg then !b else b
def fEq (neg : Bool) : F2 := fun x y h => if scalD x y = true then .ok (.bl (bneg neg (eqF x y))) h else match toP h 10 x, toP h 10 y with
  | some p, some q => if SeqAt.shaped p = true ∧ SeqAt.shaped q = true then .ok (.bl (bneg neg (PyData.eqv p q))) h else .no
  | _, _ => .no
def isNon : D → Bool
  | .non => true
  | _ => false
def fIsN (neg : Bool) : F2 := fun x y h => match y with
  | .non => .ok (.bl (bneg neg (isNon x))) h
  | _ => .no
/-- x in y -/
def fIn (neg : Bool) : F2 := fun x y h => match seqOf h y with
  | some ds => if flatD x = true ∧ ds.all flatD = true then .ok (.bl (bneg neg (ds.any fun e => eqF e x))) h else .no
  | none => match dctOf h y, keyD x with
    | some kvs, some k => .ok (.bl (bneg neg (dGet kvs k).isSome)) h
    | _, _ => .no
/-- x[y] -/
def fIx : F2 := fun x y h => match x, y with
  | .str z, .int i => if z.length ≤ sizeLine then (match atI z.cps.toList i with
    | some c => .ok (.str ⟨#[c]⟩) h
    | none => .no) else .no
  | x, y => match seqOf h x, y with
    | some ds, .int i => (match atI ds i with
      | some v => .ok v h
      | none => .no)
    | _, _ => match dctOf h x, keyD y with
      | some kvs, some k => (match dGet kvs k with
        | some v => .ok v h
        | none => .no)
      | _, _ => .no
section
variable {X : Cx} {K : PySem.W.Frag} {CA : Nat → Addr} {W : WX} {m : Mp} {h : CH} {H : Hp} {σ : L2.St}
abbrev rAddU (K : PySem.W.Frag) : R2 := fun x y H Q => (rI0 (fun i j => .int (i + j)) x y H Q) ∨ (rCat x y H Q) ∨ (rCatT K x y H Q) ∨ (∃ i j, x = .str i ∧ y = .str j ∧ i.length + j.length ≤ sizeLine ∧ Q (.str (i ++ j)) H)
theorem add_lst {nm : Bool} {x y : D} {v w : V} {Q' : VK} (S : HR K CA m h H) (rx : Rp K CA m h H v x) (ry : Rp K CA m h H w y)
    (t : PostE K CA W m h H σ Q' (match lstOf h x, lstOf h y with | some a, some b => if a.length + b.length ≤ sizeLine then mkL nm (a ++ b) h else .no | _, _ => .no)) : rCat v w H Q' := by
  split at t
  · rename_i a b e1 e2
    obtain ⟨l, t⟩ := post_ite t
    obtain ⟨a, xs, rfl, e1, r1⟩ := rp_lst S rx e1
    obtain ⟨b, ys, rfl, e2, r2⟩ := rp_lst S ry e2
    exact ⟨a, b, xs, ys, rfl, rfl, e1, e2, by rw [r1.length, r2.length]; exact l, fun p n => mkL_post S n (r1.append r2) t⟩
  · exact t.elim
theorem sim_add {nm : Bool} : SimR K CA (rAddU K) (fAdd nm) := by
  intro W σ m h H x y dx dy Q' S rx ry t
  unfold fAdd at t
  split at t
  · cases rx; cases ry; exact .inl ⟨_, _, rfl, rfl, t.here S (.int _)⟩
  · cases rx; cases ry
    obtain ⟨l, t⟩ := post_ite t
    exact .inr (.inr (.inr ⟨_, _, rfl, rfl, l, t.here S (.str _)⟩))
  · obtain ⟨⟨l1, l2⟩, t⟩ := post_ite t
    obtain ⟨a, xs, rfl, e1, r1⟩ := rp_tup rx
    obtain ⟨b, ys, rfl, e2, r2⟩ := rp_tup ry
    refine .inr (.inr (.inl ⟨a, b, xs, ys, rfl, rfl, e1, e2, fun z => l1 ?_, by rw [r1.length, r2.length]; exact l2, fun z => ?_, fun _ p n => ?_⟩))
    · subst z; cases r1; rfl
    · subst z; cases r2
      rw [List.append_nil] at t
      exact t.here S rx
    · exact t.laid S n (.tup (S.fresh n) upd_same (rps_laid S n (r1.append r2)))
  · exact .inr (.inl (add_lst S rx ry t))
theorem op_addU (hK : X.K = K := by rfl) : OpR X (binaryOp .Add) (rAddU K) := by subst hK; exact op_add.or (op_cat.or (op_catT.or op_add_str))
theorem sim_subI : SimR K CA (rI0 fun i j => .int (i - j)) fSubI := by
  intro W σ m h H x y dx dy Q' S rx ry t
  unfold fSubI at t
  split at t
  · cases rx; cases ry; exact ⟨_, _, rfl, rfl, t.here S (.int _)⟩
  · exact t.elim
theorem op_mulU : OpR X (binaryOp .Mult) (fun x y H Q => rI CMul (fun i j => .int (i * j)) x y H Q ∨ rRep x y H Q) := op_mul.or op_rep
theorem rp_rep {vs : List V} {ds : List D} (r : RpAll K CA m h H vs ds) : ∀ n : Nat, RpAll K CA m h H (List.replicate n vs).flatten (List.replicate n ds).flatten
  | 0 => by simp; exact .nil
  | n + 1 => by
    rw [List.replicate_succ, List.replicate_succ, List.flatten_cons, List.flatten_cons]
    exact r.append (rp_rep r n)
theorem sim_mul {nm : Bool} : SimR K CA (fun x y H Q => rI CMul (fun i j => .int (i * j)) x y H Q ∨ rRep x y H Q) (fMul nm) := by
  intro W σ m h H x y dx dy Q' S rx ry t
  unfold fMul at t
  split at t
  · obtain ⟨c, t⟩ := post_ite t
    cases rx; cases ry; exact .inl ⟨_, _, rfl, rfl, c, t.here S (.int _)⟩
  · split at t
    · rename_i e
      obtain ⟨⟨c1, c2, c3⟩, t⟩ := post_ite t
      obtain ⟨a, xs, rfl, e1, r1⟩ := rp_lst S rx e
      cases ry
      exact .inr ⟨a, _, xs, rfl, rfl, e1, c1, c2, by rw [r1.length]; exact c3, fun p n => mkL_post S n (rp_rep r1 _) t⟩
    · exact t.elim
  · exact t.elim
theorem sim_div : SimR K CA (rI CDiv fun i j => .int (i / j)) fDiv := by
  intro W σ m h H x y dx dy Q' S rx ry t
  unfold fDiv at t
  split at t
  · obtain ⟨c, t⟩ := post_ite t
    cases rx; cases ry; exact ⟨_, _, rfl, rfl, c, t.here S (.int _)⟩
  · exact t.elim
theorem sim_mod : SimR K CA (rI (fun _ j => 0 < j) fun i j => .int (i % j)) fMod := by
  intro W σ m h H x y dx dy Q' S rx ry t
  unfold fMod at t
  split at t
  · obtain ⟨c, t⟩ := post_ite t
    cases rx; cases ry; exact ⟨_, _, rfl, rfl, c, t.here S (.int _)⟩
  · exact t.elim
theorem sim_pow : SimR K CA (rI CPow fun i j => .int (i ^ j.toNat)) fPow := by
  intro W σ m h H x y dx dy Q' S rx ry t
  unfold fPow at t
  split at t
  · obtain ⟨c, t⟩ := post_ite t
    cases rx; cases ry; exact ⟨_, _, rfl, rfl, c, t.here S (.int _)⟩
  · exact t.elim
theorem sim_cB {f : Int → Int → Bool} : SimR K CA (rI0 fun i j => .bl (f i j)) (fB f) := by
  intro W σ m h H x y dx dy Q' S rx ry t
  unfold fB at t
  split at t
  · cases rx; cases ry; exact ⟨_, _, rfl, rfl, t.here S (.bl _)⟩
  · exact t.elim
theorem sim_eq : SimR K CA (fun x y H Q => rEq x y H Q ∨ rEqD K x y H Q) (fEq false) := by
  intro W σ m h H x y dx dy Q' S rx ry t
  unfold fEq at t
  split at t
  · rename_i c
    obtain ⟨s, e⟩ := rp_scal rx ry c
    exact .inl ⟨s, by rw [e]; exact t.here S (.bl _)⟩
  · split at t
    · rename_i p q e1 e2
      obtain ⟨⟨c1, c2⟩, t⟩ := post_ite t
      exact .inr ⟨p, q, rp_dp S _ dx x p rx e1, rp_dp S _ dy y q ry e2, c1, c2, t.here S (.bl _)⟩
    · exact t.elim
theorem op_eqU (hu : X.A.units + 64 < cLine) (hK : X.K = K := by rfl) : OpR X (compareOp .Eq) (fun x y H Q => rEq x y H Q ∨ rEqD K x y H Q) := by subst hK; exact op_eq.or (op_eqD hu)
theorem sim_ne : SimR K CA (fun x y H Q => rNe x y H Q ∨ rNeD K x y H Q) (fEq true) := by
  intro W σ m h H x y dx dy Q' S rx ry t
  unfold fEq at t
  split at t
  · rename_i c
    obtain ⟨s, e⟩ := rp_scal rx ry c
    exact .inl ⟨s, by rw [e]; exact t.here S (.bl _)⟩
  · split at t
    · rename_i p q e1 e2
      obtain ⟨⟨c1, c2⟩, t⟩ := post_ite t
      exact .inr ⟨p, q, rp_dp S _ dx x p rx e1, rp_dp S _ dy y q ry e2, c1, c2, t.here S (.bl _)⟩
    · exact t.elim
theorem op_neU (hu : X.A.units + 64 < cLine) (hK : X.K = K := by rfl) : OpR X (compareOp .NotEq) (fun x y H Q => rNe x y H Q ∨ rNeD K x y H Q) := by subst hK; exact op_ne.or (op_neD hu)
theorem sim_isN : SimR K CA (fun x y H Q => y = .non ∧ Q (.bl (decide (x = .non))) H) (fIsN false) := by
  intro W σ m h H x y dx dy Q' S rx ry t
  unfold fIsN at t
  split at t
  · cases ry
    refine ⟨rfl, ?_⟩
    cases rx <;> exact t.here S (.bl _)
  · exact t.elim
theorem sim_notN : SimR K CA (fun x y H Q => y = .non ∧ Q (.bl (!decide (x = .non))) H) (fIsN true) := by
  intro W σ m h H x y dx dy Q' S rx ry t
  unfold fIsN at t
  split at t
  · cases ry
    refine ⟨rfl, ?_⟩
    cases rx <;> exact t.here S (.bl _)
  · exact t.elim
def rDIn (neg : Bool) : R2 := fun y x H Q => ∃ a o, x = .ref a ∧ DGet H a y o ∧ Q (.bl (if neg then !o.isSome else o.isSome)) H
theorem op_inDct (hu : X.A.units + 1 < cLine) : OpR X (compareOp .In) (rDIn false) := by
  intro pins s σ H y x u v Q I ry rx h
  obtain ⟨a, o, rfl, g, q⟩ := h
  cases rx
  exact d_in hu I g ry fun s3 I3 => ⟨.bl o.isSome, H, I3, rfl, q⟩
theorem op_notInDct (hu : X.A.units + 1 < cLine) : OpR X (compareOp .NotIn) (rDIn true) := by
  intro pins s σ H y x u v Q I ry rx h
  obtain ⟨a, o, rfl, g, q⟩ := h
  cases rx
  exact d_notIn hu I g ry fun s3 I3 => ⟨.bl (!o.isSome), H, I3, rfl, q⟩
theorem sim_in {neg : Bool} : SimR K CA (fun x y H Q => rIn K neg x y H Q ∨ rDIn neg x y H Q) (fIn neg) := by
  intro W σ m h H x y dx dy Q' S rx ry t
  unfold fIn at t
  split at t
  · rename_i ds e
    obtain ⟨⟨f, fs⟩, t⟩ := post_ite t
    obtain ⟨a, xs, rfl, e1, r1⟩ := rp_seq S ry e
    refine .inl ⟨a, xs, rfl, e1, rp_flat rx f, rp_flats r1 fs, ?_⟩
    rw [rp_inV r1 rx fs f]
    exact t.here S (.bl _)
  · split at t
    · rename_i kvs k e ek
      obtain ⟨a, o, hk, rfl, e1, c, en, r⟩ := rp_dct S ry e
      have ek := rp_key rx ek
      subst ek
      refine .inr ⟨a, valV hk k, rfl, dget_core e1 c, ?_⟩
      rcases rp_dget (k := k) en r with ⟨v, d, h1, h2, _⟩ | ⟨h1, h2⟩
      · rw [h1]; rw [h2] at t; exact t.here S (.bl _)
      · rw [h1]; rw [h2] at t; exact t.here S (.bl _)
    · exact t.elim
theorem op_inU (hu : X.A.units + 1 < cLine) (hK : X.K = K := by rfl) : OpR X (compareOp .In) (fun x y H Q => rIn K false x y H Q ∨ rDIn false x y H Q) := by subst hK; exact op_in_seq.or (op_inDct hu)
theorem op_notInU (hu : X.A.units + 1 < cLine) (hK : X.K = K := by rfl) : OpR X (compareOp .NotIn) (fun x y H Q => rIn K true x y H Q ∨ rDIn true x y H Q) := by subst hK; exact op_notIn_seq.or (op_notInDct hu)
theorem ix_dct (hu : X.A.units + 1 < cLine) : IxR X (fun x y H Q => ∃ a v, x = .ref a ∧ DGet H a y (some v) ∧ Q v H) := by
  intro value slice pins s σ H x y v u Q I rx ry h hs
  obtain ⟨a, z, rfl, g, q⟩ := h
  cases rx
  exact tail_any (dict_typeIs I g) PySem.F.slot_dict_getitem.lookup (d_getItem hu I g ry fun w' s3 I3 rw' => ⟨z, H, I3, rw', q⟩) hs
abbrev rIxU (K : PySem.W.Frag) : R2 := fun x y H Q => rIx K x y H Q ∨ ∃ a v, x = .ref a ∧ DGet H a y (some v) ∧ Q v H
theorem ixU (hu : X.A.units + 1 < cLine) (hK : X.K = K := by rfl) : IxR X (rIxU K) := by subst hK; exact ix_seq.or (ix_dct hu)
theorem atI_rp {vs : List V} {ds : List D} {i : Int} {d : D} (r : RpAll K CA m h H vs ds) (e : atI ds i = some d) : ∃ v, atI vs i = some v ∧ Rp K CA m h H v d := by
  unfold atI at e ⊢
  rw [r.length]
  cases q : ixN ds.length i with
  | none => rw [q] at e; cases e
  | some j =>
    rw [q] at e
    exact r.getD e
theorem sim_ix : SimR K CA (rIxU K) fIx := by
  intro W σ m h H x y dx dy Q' S rx ry t
  unfold fIx at t
  split at t
  · obtain ⟨l, t⟩ := post_ite t
    split at t
    · rename_i c e
      cases rx; cases ry
      exact .inl (.inr (.inr ⟨_, _, c, rfl, rfl, l, e, t.here S (.str _)⟩))
    · exact t.elim
  · split at t
    · rename_i ds i e _
      split at t
      · rename_i d ea
        obtain ⟨a, xs, rfl, e1, r1⟩ := rp_seq S rx e
        cases ry
        obtain ⟨w, e2, r2⟩ := atI_rp r1 ea
        rcases e1 with e1 | e1
        · exact .inl (.inl ⟨a, xs, _, w, rfl, rfl, e1, e2, t.here S r2⟩)
        · exact .inl (.inr (.inl ⟨a, xs, _, w, rfl, rfl, e1, e2, t.here S r2⟩))
      · exact t.elim
    · split at t
      · rename_i kvs k e ek
        split at t
        · rename_i d eg
          obtain ⟨a, o, hk, rfl, e1, c, en, r⟩ := rp_dct S rx e
          have e2 := rp_key ry ek
          subst e2
          rcases rp_dget (k := k) en r with ⟨w, d, h1, h2, h3⟩ | ⟨_, h2⟩
          · rw [h2] at eg
            cases eg
            refine .inr ⟨a, w, rfl, ?_, t.here S h3⟩
            rw [← h1]
            exact dget_core e1 c
          · rw [h2] at eg; cases eg
        · exact t.elim
      · exact t.elim
end
end CM
namespace CM
open PySem PySem.Spec PyProof.Rows L2

/-! ### statements -/
section
variable (K : PySem.W.Frag) (CA : Nat → Addr) (W : WX)
def PostS (m : Mp) (h : CH) (H : Hp) (D' : Ends) : RS → Prop
  | .nx ρ' h' => ∀ m' σ' H', Stp m h H m' h' H' → SO K CA m' h' H' σ' ρ' → D'.nx σ' H'
  | .rt d h' => ∀ m' v H', Stp m h H m' h' H' → HR K CA m' h' H' → Rp K CA m' h' H' v d → D'.rt v H'
  | .bk ρ' h' => ∀ m' σ' H', Stp m h H m' h' H' → SO K CA m' h' H' σ' ρ' → D'.bk σ' H'
  | .ct ρ' h' => ∀ m' σ' H', Stp m h H m' h' H' → SO K CA m' h' H' σ' ρ' → D'.ct σ' H'
  | .ex ρ' c fs h' => ∀ m' cls dd σ' H', Stp m h H m' h' H' → SO K CA m' h' H' σ' ρ' → XR K CA m' h' H' cls dd c fs → W cls dd σ' H'
  | .no => False
def SimS (tS : TS) (u : SD) : Prop := ∀ (m : Mp) (h : CH) (H : Hp) (σ : L2.St) (ρ : DE) (D' : Ends), SO K CA m h H σ ρ → PostS K CA W m h H D' (u ρ h) → tS D' σ H
end
section
variable (X : Cx) (K : PySem.W.Frag) (CA : Nat → Addr) (W : WX)
structure WS (st : Stmt) (tS : TS) (u : SD) : Prop where
  pe : PS X st tS
  sim : SimS K CA W tS u
structure WSs (st : List Stmt) (tS : TS) (u : SD) : Prop where
  pe : PSs X st tS
  sim : SimS K CA W tS u
end
section
variable {K : PySem.W.Frag} {CA : Nat → Addr} {W : WX} {m m1 : Mp} {h h1 : CH} {H H1 : Hp} {σ : L2.St} {ρ : DE} {D' : Ends} {α β : Type} {RR : Mp → CH → Hp → β → α → Prop} {Q1 : β → Hp → Prop}
theorem PostS.from {r : RS} (q : PostS K CA W m h H D' r) (s : Stp m h H m1 h1 H1) : PostS K CA W m1 h1 H1 D' r := by
  cases r with
  | nx ρ' h' => exact fun m' σ' H' s' => q m' σ' H' (s.trans s')
  | rt d h' => exact fun m' v H' s' => q m' v H' (s.trans s')
  | bk ρ' h' => exact fun m' σ' H' s' => q m' σ' H' (s.trans s')
  | ct ρ' h' => exact fun m' σ' H' s' => q m' σ' H' (s.trans s')
  | ex ρ' c fs h' => exact fun m' cls dd σ' H' s' => q m' cls dd σ' H' (s.trans s')
  | no => exact q
theorem PostS.bind {r : R α} {k : α → CH → RS} (S : SO K CA m h H σ ρ) (q : PostS K CA W m h H D' (r.toS ρ k))
    (f : ∀ a h1 m1 b H1, Stp m h H m1 h1 H1 → HR K CA m1 h1 H1 → RR m1 h1 H1 b a → PostS K CA W m1 h1 H1 D' (k a h1) → Q1 b H1) : PostG K CA W RR m h H σ Q1 r := by
  cases r with
  | ok a h1 => exact fun m1 b H1 s S1 rr => f a h1 m1 b H1 s S1 rr (q.from s)
  | ex c fs h1 => exact fun m' cls dd H' s S1 x => q m' cls dd σ H' s (S.move s S1) x
  | no => exact q
end
def dNext : SD := fun ρ h => .nx ρ h
def RS.bind (r : RS) (w : SD) : RS := match r with
  | .nx ρ h => w ρ h
  | r => r
def dSeq (u w : SD) : SD := fun ρ h => (u ρ h).bind w
def dIfS (c : TB) (u w : SD) : SD := fun ρ h => (c ρ h).toS ρ fun b h => if b = true then u ρ h else w ρ h
def dRet (t : TD) : SD := fun ρ h => (t ρ h).toS ρ fun d h => .rt d h
def dRetN : SD := fun ρ h => .rt .non h
def dBreak : SD := fun ρ h => .bk ρ h
def dCont : SD := fun ρ h => .ct ρ h
def dDrop (t : TD) : SD := fun ρ h => (t ρ h).toS ρ fun _ h => .nx ρ h
def dNever : SD := fun _ _ => .no
abbrev TGD := D → DE → CH → R DE
abbrev TGDs := List D → DE → CH → R DE
def gdName (i : Nat) : TGD := fun d ρ h => .ok (ρ.set i (some d)) h
def gdNil : TGDs := fun ds ρ h => match ds with
  | [] => .ok ρ h
  | _ => .no
def gdCons (t : TGD) (u : TGDs) : TGDs := fun ds ρ h => match ds with
  | d :: r => (t d ρ h).bind fun ρ h => u r ρ h
  | [] => .no
/-- a tuple's parts -/
def gdTup (n : Nat) (t : TGDs) : TGD := fun d ρ h => match d with
  | .tup ds => if ds.length = n then t ds ρ h else .no
  | _ => .no
/-- a target's storing: no exception may come of it -/
def R.put (r : R DE) (k : SD) : RS := match r with
  | .ok ρ h => k ρ h
  | _ => .no
def dAsg (t : TD) (tg : TGD) : SD := fun ρ h => (t ρ h).toS ρ fun d h => (tg d ρ h).put fun ρ h => .nx ρ h
def dPar (i j : Nat) (ts : TDs) : SD := fun ρ h => (ts ρ h).toS ρ fun ds h => match ds with
  | [x, y] => .nx ((ρ.set i (some x)).set j (some y)) h
  | _ => .no
def dPar3 (i j l : Nat) (ts : TDs) : SD := fun ρ h => (ts ρ h).toS ρ fun ds h => match ds with
  | [x, y, z] => .nx (((ρ.set i (some x)).set j (some y)).set l (some z)) h
  | _ => .no
/-- for, over the items -/
def dForL (tg : TGD) (u : SD) : List D → SD
  | [], ρ, h => .nx ρ h
  | d :: r, ρ, h => (tg d ρ h).put fun ρ1 h1 => match u ρ1 h1 with
    | .nx ρ2 h2 => dForL tg u r ρ2 h2
    | .ct ρ2 h2 => dForL tg u r ρ2 h2
    | .bk ρ2 h2 => .nx ρ2 h2
    | x => x
/-- what is unlocked behind a walk -/
abbrev Unl := Option (Nat × MO)
def unlH : Unl → CH → CH
  | none, h => h
  | some (k, o), h => h.put k o
def RS.unl (u : Unl) : RS → RS
  | .nx ρ h => .nx ρ (unlH u h)
  | .rt d h => .rt d (unlH u h)
  | .bk ρ h => .bk ρ (unlH u h)
  | .ct ρ h => .ct ρ (unlH u h)
  | r => r
def R.unl {α : Type} (u : Unl) : R α → R α
  | .ok a h => .ok a (unlH u h)
  | r => r
abbrev TDw := DE → CH → R (List D × Unl)
def dFor (t : TDw) (tg : TGD) (u : SD) : SD := fun ρ h => (t ρ h).toS ρ fun w h => (dForL tg u w.1 ρ h).unl w.2
/-- while, at most so many turns -/
def dWhile (c : TB) (u : SD) : Nat → SD
  | 0, _, _ => .no
  | n + 1, ρ, h => (c ρ h).toS ρ fun b h1 => if b = true then (match u ρ h1 with
    | .nx ρ2 h2 => dWhile c u n ρ2 h2
    | .ct ρ2 h2 => dWhile c u n ρ2 h2
    | .bk ρ2 h2 => .nx ρ2 h2
    | x => x) else .nx ρ h1

section
variable {K : PySem.W.Frag} {CA : Nat → Addr} {W : WX} {t t' : TS} {u w : SD} {tH : TE} {tT : TT} {d : TD} {tB : TB}
theorem sim_next : SimS K CA W tNext dNext := fun m h H σ ρ D' S q => q m σ H .refl S
theorem sim_seq (x : SimS K CA W t u) (y : SimS K CA W t' w) : SimS K CA W (tSeq t t') (dSeq u w) := fun m h H σ ρ D' S q =>
  x m h H σ ρ { D' with nx := t' D' } S (by
    unfold dSeq at q
    cases e : u ρ h with
    | nx ρ' h' => rw [e] at q; exact fun m' σ' H' s S' => y m' h' H' σ' ρ' D' S' (PostS.from (show PostS K CA W m h H D' (w ρ' h') from q) s)
    | rt d h' => rw [e] at q; exact q
    | bk d h' => rw [e] at q; exact q
    | ct d h' => rw [e] at q; exact q
    | ex ρ' c fs h' => rw [e] at q; exact q
    | no => rw [e] at q; exact q)
theorem sim_ifS (hc : SimT K CA W tT tB) (x : SimS K CA W t u) (y : SimS K CA W t' w) : SimS K CA W (tIfS tT t t') (dIfS tB u w) := fun m h H σ ρ D' S q =>
  hc m h H σ ρ _ S (PostS.bind S q fun b h1 m1 b' H1 s1 S1 e q1 => by
    cases (show b' = b from e)
    cases b with
    | true => exact x m1 h1 H1 σ ρ D' (S.move s1 S1) q1
    | false => exact y m1 h1 H1 σ ρ D' (S.move s1 S1) q1)
theorem sim_ret (x : SimE K CA W tH d) : SimS K CA W (tRet tH) (dRet d) := fun m h H σ ρ D' S q =>
  x m h H σ ρ _ S (PostS.bind S q fun a h1 m1 v H1 s1 S1 r q1 => q1 m1 v H1 .refl S1 r)
theorem sim_drop (x : SimE K CA W tH d) : SimS K CA W (tDrop tH) (dDrop d) := fun m h H σ ρ D' S q =>
  x m h H σ ρ _ S (PostS.bind S q fun a h1 m1 v H1 s1 S1 r q1 => q1 m1 σ H1 .refl (S.move s1 S1))
end
/-! ### targets -/
section
variable (K : PySem.W.Frag) (CA : Nat → Addr) (W : WX)
def PostT' (m : Mp) (h : CH) (H : Hp) (σ : L2.St) (sl : List Nat) (Q' : L2.St → Hp → Prop) : R DE → Prop
  | .ok ρ' h' => ∀ m' σ' H', Stp m h H m' h' H' → SO K CA m' h' H' σ' ρ' → σ'.length = σ.length → (∀ j, j ∉ sl → σ'[j]? = σ[j]?) → Q' σ' H'
  | .ex _ _ _ => False
  | .no => False
def SimG (sl : List Nat) (gH : TG) (tg : TGD) : Prop := ∀ (m : Mp) (h : CH) (H : Hp) (σ : L2.St) (ρ : DE) (v : V) (d : D) (Q' : L2.St → Hp → Prop), SO K CA m h H σ ρ → Rp K CA m h H v d → PostT' K CA m h H σ sl Q' (tg d ρ h) → gH v σ H Q'
def SimGs (sl : List Nat) (gH : TGs) (tg : TGDs) : Prop := ∀ (m : Mp) (h : CH) (H : Hp) (σ : L2.St) (ρ : DE) (vs : List V) (ds : List D) (Q' : L2.St → Hp → Prop), SO K CA m h H σ ρ → RpAll K CA m h H vs ds → PostT' K CA m h H σ sl Q' (tg ds ρ h) → gH vs σ H Q'
end
section
variable (X : Cx) (K : PySem.W.Frag) (CA : Nat → Addr) (W : WX)
structure WG (e : Expr) (sl : List Nat) (gH : TG) (tg : TGD) : Prop where
  pe : PG X e gH
  sim : SimG K CA sl gH tg
structure WGs (es : List Expr) (sl : List Nat) (gH : TGs) (tg : TGDs) : Prop where
  pe : PGs X es gH
  sim : SimGs K CA sl gH tg
end
section
variable {X : Cx} {K : PySem.W.Frag} {CA : Nat → Addr} {W : WX} {e a b c : Expr} {es : List Expr} {gH : TG} {tg : TGD} {gHs : TGs} {tgs : TGDs} {pos : Pos} {st : Stmt} {sts rest x y : List Stmt} {tu tw : TS} {u w : SD} {ha : TE} {ta : TD} {hs : TA} {ts : TDs} {hB : TT} {tB : TB}
theorem PostT'.mono {m m1 : Mp} {h h1 : CH} {H H1 : Hp} {σ σ1 : L2.St} {s1 s2 : List Nat} {Q' : L2.St → Hp → Prop} {r : R DE} (q : PostT' K CA m h H σ s2 Q' r) (s : Stp m h H m1 h1 H1) (l : σ1.length = σ.length) (k : ∀ j, j ∉ s2 → σ1[j]? = σ[j]?) (sub : ∀ j, j ∈ s1 → j ∈ s2) : PostT' K CA m1 h1 H1 σ1 s1 Q' r := by
  cases r with
  | ok ρ' h' => exact fun m' σ' H' s' S' l' k' => q m' σ' H' (s.trans s') S' (l'.trans l) fun j hj => (k' j fun z => hj (sub j z)).trans (k j hj)
  | ex c fs h' => exact q
  | no => exact q
theorem sim_gName {i : Nat} : SimG K CA [i] (gName i) (gdName i) := fun m h H σ ρ v d Q' S r k => k m _ H .refl (S.set i r) (by simp) fun j hj => List.getElem?_set_ne (fun z => hj (by simp [z]))
theorem wg_name {i : Nat} (h : PG X e (gName i)) : WG X K CA e [i] (gName i) (gdName i) := ⟨h, sim_gName⟩
theorem wgs_nil : WGs X K CA [] [] gNil gdNil := ⟨pgs_nil, fun m h H σ ρ vs ds Q' S r k => by
  cases r with
  | nil => exact ⟨rfl, k m σ H .refl S rfl fun _ _ => rfl⟩
  | cons => exact k.elim⟩
theorem wgs_cons {s1 s2 : List Nat} (h : WG X K CA e s1 gH tg) (h' : WGs X K CA es s2 gHs tgs) (hst : (assignEach (e :: es) X.env).map (·.2) = assign e X.env :: (assignEach es X.env).map (·.2) := by rfl) : WGs X K CA (e :: es) (s1 ++ s2) (gCons gH gHs) (gdCons tg tgs) := by
  refine ⟨pgs_cons h.pe h'.pe hst, fun m hh H σ ρ vs ds Q' S r q => ?_⟩
  cases r with
  | nil => exact q.elim
  | @cons v vs d ds r1 r2 =>
    refine ⟨v, vs, rfl, h.sim m hh H σ ρ v d _ S r1 ?_⟩
    simp only [gdCons] at q
    cases e : tg d ρ hh with
    | ok ρ' h1 =>
      rw [e] at q
      exact fun m1 σ1 H1 st1 S1 l1 k1 => h'.sim m1 h1 H1 σ1 ρ' vs ds Q' S1 (r2.move st1) (PostT'.mono (show PostT' K CA m hh H σ (s1 ++ s2) Q' (tgs ds ρ' h1) from q) st1 l1 (fun j hj => k1 j fun z => hj (List.mem_append_left _ z)) fun j hj => List.mem_append_right _ hj)
    | ex c fs h1 => rw [e] at q; exact q
    | no => rw [e] at q; exact q
theorem wg_tup {n k : Nat} {sl : List Nat} (hc : X.calm = true) (h : WGs X K CA es sl gHs tgs) (hn : (assignEach es X.env).length = n := by rfl) (hst : (assignEach es X.env).findIdx? (·.1) = none := by rfl) (hK : X.K = K := by rfl) : WG X K CA (.Tuple es k pos) sl (gTup K n gHs) (gdTup n tgs) := by
  subst hK
  refine ⟨pg_tup hc h.pe hn hst, fun m hh H σ ρ v d Q' S r q => ?_⟩
  cases d with
  | tup ds =>
    simp only [gdTup] at q
    by_cases hl : ds.length = n
    · rw [if_pos hl] at q
      obtain ⟨a, xs, rfl, e1, r1⟩ := rp_tup r
      exact ⟨a, xs, rfl, e1, r1.length.trans hl, h.sim m hh H σ ρ xs ds Q' S r1 q⟩
    · rw [if_neg hl] at q; exact q.elim
  | _ => exact q.elim

/-! ### statements' rules -/
theorem wss_nil : WSs X K CA W [] tNext dNext := ⟨pss_nil, sim_next⟩
theorem wss_cons (h : WS X K CA W st tu u) (h' : WSs X K CA W rest tw w) : WSs X K CA W (st :: rest) (tSeq tu tw) (dSeq u w) := ⟨pss_cons h.pe h'.pe, sim_seq h.sim h'.sim⟩
theorem wss_one (h : WS X K CA W st tu u) : WSs X K CA W [st] tu u := ⟨pss_one h.pe, h.sim⟩
theorem wss_never : WSs X K CA W sts tNever dNever := ⟨pss_never, fun m h H σ ρ D' S q => q.elim⟩
theorem ws_never : WS X K CA W st tNever dNever := ⟨ps_never, fun m h H σ ρ D' S q => q.elim⟩
theorem ws_pass : WS X K CA W (.Pass pos) tNext dNext := ⟨ps_pass, sim_next⟩
theorem ws_break : WS X K CA W (.Break pos) tBreak dBreak := ⟨ps_break, fun m h H σ ρ D' S q => q m σ H .refl S⟩
theorem ws_continue : WS X K CA W (.Continue pos) tCont dCont := ⟨ps_continue, fun m h H σ ρ D' S q => q m σ H .refl S⟩
theorem ws_doc {x j pos'} : WS X K CA W (.Expr (.Constant (.str x) j pos) pos') tNext dNext := ⟨ps_doc, sim_next⟩
theorem ws_expr (h : WE X K CA W e ha ta) (hsw : swapsWith e none pos.line X.env = pure false := by rfl) : WS X K CA W (.Expr e pos) (tDrop ha) (dDrop ta) := ⟨ps_expr h.pe hsw, sim_drop h.sim⟩
theorem ws_ret (h : WE X K CA W e ha ta) : WS X K CA W (.Return (some e) pos) (tRet ha) (dRet ta) := ⟨ps_ret h.pe, sim_ret h.sim⟩
theorem ws_retN : WS X K CA W (.Return none pos) tRetN dRetN := ⟨ps_retN, fun m h H σ ρ D' S q => q m .non H .refl S.hr .non⟩
theorem ws_if (h0 : WT X K CA W c hB tB) (h : WSs X K CA W x tu u) (h' : WSs X K CA W y tw w) : WS X K CA W (.If c x y pos) (tIfS hB tu tw) (dIfS tB u w) := ⟨ps_if h0.pe h.pe h'.pe, sim_ifS h0.sim h.sim h'.sim⟩
theorem put_post {sl : List Nat} {m : Mp} {h : CH} {H : Hp} {σ : L2.St} {D' : Ends} {r : R DE} {k : SD} {Q' : L2.St → Hp → Prop} (q : PostS K CA W m h H D' (r.put k)) (f : ∀ ρ' h' m' σ' H', Stp m h H m' h' H' → SO K CA m' h' H' σ' ρ' → PostS K CA W m' h' H' D' (k ρ' h') → Q' σ' H') : PostT' K CA m h H σ sl Q' r := by
  cases r with
  | ok ρ' h2 => exact fun m2 σ2 H2 s2 S2 _ _ => f ρ' h2 m2 σ2 H2 s2 S2 (PostS.from (show PostS K CA W m h H D' (k ρ' h2) from q) s2)
  | ex c fs h2 => exact q
  | no => exact q
theorem sim_asg {sl : List Nat} (h : SimE K CA W ha ta) (hg : SimG K CA sl gH tg) : SimS K CA W (tAsg ha gH) (dAsg ta tg) := fun m hh H σ ρ D' S q =>
  h m hh H σ ρ _ S (PostS.bind S q fun d h1 m1 v H1 s1 S1 r q1 => hg m1 h1 H1 σ ρ v d _ (S.move s1 S1) r (put_post q1 fun ρ' h' m' σ' H' s' S' q' => q' m' σ' H' .refl S'))
theorem ws_asg {sl : List Nat} (h : WE X K CA W e ha ta) (hg : WG X K CA a sl gH tg) (hsw : swapsWithSole [a] e pos.line X.env = pure false := by rfl) (hw : swappedStores [a] e X.env = pure none := by rfl)
    (h1 : (assignEach [a] X.env).map (·.2) = [assign a X.env] := by rfl) : WS X K CA W (.Assign [a] e pos) (tAsg ha gH) (dAsg ta tg) := ⟨ps_asg h.pe hg.pe hsw hw h1, sim_asg h.sim hg.sim⟩
/-- x = e: hp is the rule ps_set .. -/
theorem ws_set {i : Nat} (h : WE X K CA W e ha ta) (hp : PE X e ha → PS X st (tAsg ha (gName i))) : WS X K CA W st (tAsg ha (gName i)) (dAsg ta (gdName i)) :=
  ⟨hp h.pe, sim_asg h.sim sim_gName⟩
theorem ws_par {i j : Nat} (h : WA X K CA W es hs ts) (hp : PA X es hs → PS X st (tPar i j hs)) : WS X K CA W st (tPar i j hs) (dPar i j ts) := by
  refine ⟨hp h.pe, fun m hh H σ ρ D' S q => h.sim m hh H σ ρ _ S (PostS.bind S q fun ds h1 m1 vs H1 s1 S1 r q1 => ?_)⟩
  split at q1
  · cases r with
    | @cons v _ _ _ r1 r2 =>
      cases r2 with
      | @cons v' _ _ _ r2 r3 =>
        cases r3
        exact ⟨v, v', rfl, q1 m1 _ H1 .refl (((S.move s1 S1).set i r1).set j r2)⟩
  · exact q1.elim
theorem ws_par3 {i j l : Nat} (h : WA X K CA W es hs ts) (hp : PA X es hs → PS X st (tPar3 i j l hs)) : WS X K CA W st (tPar3 i j l hs) (dPar3 i j l ts) := by
  refine ⟨hp h.pe, fun m hh H σ ρ D' S q => h.sim m hh H σ ρ _ S (PostS.bind S q fun ds h1 m1 vs H1 s1 S1 r q1 => ?_)⟩
  split at q1
  · cases r with
    | @cons v _ _ _ r1 r2 =>
      cases r2 with
      | @cons v' _ _ _ r2 r3 =>
        cases r3 with
        | @cons v2 _ _ _ r3 r4 =>
          cases r4
          exact ⟨v, v', v2, rfl, q1 m1 _ H1 .refl ((((S.move s1 S1).set i r1).set j r2).set l r3)⟩
  · exact q1.elim
end
/-! ### loops -/
section
variable (K : PySem.W.Frag) (CA : Nat → Addr) (W : WX)
/-- the iterator J gives the items ds, whatever the body does -/
structure Wk (m : Mp) (h : CH) (H : Hp) (J : It) (ds : List D) : Prop where
  go : ∀ (i : Nat) (m' : Mp) (h' : CH) (H' : Hp) (d : D), Sz m h H m' h' H' → HR K CA m' h' H' → ds[i]? = some d → J.go i H' ∧ ∀ x H2, J.yld i H' x H2 → (∀ a u, H' a = some u → H2 a = some u) ∧ Rp K CA m' h' H2 x d
  stop : ∀ (m' : Mp) (h' : CH) (H' : Hp), Sz m h H m' h' H' → HR K CA m' h' H' → J.stop ds.length H'
/-- .. and what was locked for the walk may be unlocked -/
def UnlOk (H0 : Hp) (m : Mp) (h : CH) (H : Hp) (m' : Mp) (h' : CH) (H' : Hp) : Unl → Prop
  | none => True
  | some (k, o) => ∀ m2 h2 H2, Stp m' h' H' m2 h2 H2 → HR K CA m2 h2 H2 → ∃ o' H3, h2.ob k = some o' ∧ (H3 = H2 ∨ ∃ od hk, H2 (m2 k) = some (.frz od (.dK hk)) ∧ (∀ o' u', H0 (m2 k) ≠ some (.frz o' u')) ∧ H3 = upd H2 (m2 k) (.dK hk)) ∧
      Stp m h H m2 (h2.put k o) H3 ∧ HR K CA m2 (h2.put k o) H3
def PostI (H0 : Hp) (m : Mp) (h : CH) (H : Hp) (σ : L2.St) (R' : It → Hp → Prop) : R (List D × Unl) → Prop
  | .ok w h' => ∀ m' J H', Stp m h H m' h' H' → HR K CA m' h' H' → Wk K CA m' h' H' J w.1 → UnlOk K CA H0 m h H m' h' H' w.2 → R' J H'
  | .ex c fs h' => ∀ m' cls dd H', Stp m h H m' h' H' → HR K CA m' h' H' → XR K CA m' h' H' cls dd c fs → W cls dd σ H'
  | .no => False
def SimI (H0 : Hp) (wH : TI) (t : TDw) : Prop := ∀ (m : Mp) (h : CH) (H : Hp) (σ : L2.St) (ρ : DE) (R' : It → Hp → Prop), SO K CA m h H σ ρ → PostI K CA W H0 m h H σ R' (t ρ h) → wH σ H R'
end
section
variable (X : Cx) (K : PySem.W.Frag) (CA : Nat → Addr) (W : WX)
structure WI (tg iter : Expr) (wH : TI) (t : TDw) : Prop where
  pe : PI X tg iter wH
  sim : SimI K CA W X.H_0 wH t
end
/-- a state behind which something locked is unlocked -/
def UnlP (X : Cx) (P : Hp → Prop) (H : Hp) : Prop := P H ∨ ∃ d od u, H d = some (.frz od u) ∧ (∀ o' u', X.H_0 d ≠ some (.frz o' u')) ∧ P (upd H d u)
def unlE (X : Cx) (D : Ends) : Ends := ⟨fun σ => UnlP X (D.nx σ), fun v => UnlP X (D.rt v), fun σ => UnlP X (D.bk σ), fun σ => UnlP X (D.ct σ)⟩
theorem unl_inv {X : Cx} {pins : List (Addr × Obj)} {σ : L2.St} {H : Hp} {s : Shared} {P : Hp → Prop} (I : Inv X pins σ H s) (q : UnlP X P H) : ∃ H', Inv X pins σ H' s ∧ P H' := by
  rcases q with q | ⟨d, od, u, e, n, q⟩
  · exact ⟨H, I, q⟩
  · exact ⟨_, I.unlock e n, q⟩
theorem ps_unl {X : Cx} {st : Stmt} {t : TS} (x : PS X st t) : PS X st (fun D σ H => t (unlE X D) σ H) := by
  refine ⟨fun pins s σ H D I hw => thn (x.run pins s σ H _ I hw) fun f s1 q => ?_⟩
  cases f with
  | next => obtain ⟨σ', H', I2, q⟩ := q; obtain ⟨H2, I3, q⟩ := unl_inv I2 q; exact ⟨σ', H2, I3, q⟩
  | brk => obtain ⟨σ', H', I2, q⟩ := q; obtain ⟨H2, I3, q⟩ := unl_inv I2 q; exact ⟨σ', H2, I3, q⟩
  | cont => obtain ⟨σ', H', I2, q⟩ := q; obtain ⟨H2, I3, q⟩ := unl_inv I2 q; exact ⟨σ', H2, I3, q⟩
  | ret v => obtain ⟨y, σ', H', I2, r, q⟩ := q; obtain ⟨H2, I3, q⟩ := unl_inv I2 q; exact ⟨y, σ', H2, I3, r, q⟩
theorem pe_unl {X : Cx} {e : Expr} {t : TE} (x : PE X e t) : PE X e (fun σ H Q => t σ H fun v => UnlP X (Q v)) := by
  refine ⟨fun pins s σ H Q I hw => thn (x.run pins s σ H _ I hw) fun v s1 q => ?_⟩
  obtain ⟨y, H1, I2, r, q⟩ := q
  obtain ⟨H2, I3, q⟩ := unl_inv I2 q
  exact ⟨y, H2, I3, r, q⟩
def itemsD (h : CH) : D → Option (List D)
  | .lst ds => some ds
  | .tup ds => some ds
  | .scr ns => some (ns.map D.int)
  | _ => none
/-- what is walked: the items -/
def lockD (d : D) (h : CH) : R (List D × Unl) := match d with
  | .ref k => match h.ob k with
    | some (.lst ds) => .ok (ds, some (k, .lst ds)) (h.put k (.lkl ds))
    | some (.lkl ds) => .ok (ds, none) h
    | _ => .no
  | _ => .no
def dSeqI (t : TD) : TDw := fun ρ h => (t ρ h).bind fun d h => match itemsD h d with
  | some ds => .ok (ds, none) h
  | none => lockD d h
def rgD (a : Int) (n : Nat) : List D := (List.range n).map fun (i : Nat) => D.int (a + (i : Int))
def dRng1 (ts : TDs) : TDw := fun ρ h => (ts ρ h).bind fun ds h => match ds with
  | [.int n] => if -(2 ^ 62) ≤ n ∧ n < 2 ^ 62 then .ok (rgD 0 n.toNat, none) h else .no
  | _ => .no
def dRng2 (ts : TDs) : TDw := fun ρ h => (ts ρ h).bind fun ds h => match ds with
  | [.int a, .int b] => if -(2 ^ 62) ≤ a ∧ a < 2 ^ 62 ∧ -(2 ^ 62) ≤ b ∧ b < 2 ^ 62 then .ok (rgD a (b - a).toNat, none) h else .no
  | _ => .no
def enD : Nat → List D → List D
  | _, [] => []
  | i, d :: r => .tup [.int (i : Int), d] :: enD (i + 1) r
def dEnum (ts : TDs) : TDw := fun ρ h => (ts ρ h).bind fun ds h => match ds with
  | [.lst xs] => .ok (enD 0 xs, none) h
  | _ => .no
section
variable {X : Cx} {K : PySem.W.Frag} {CA : Nat → Addr} {W : WX} {e a b l c tge iter : Expr} {es : List Expr} {gH : TG} {tg : TGD} {pos p : Pos} {st : Stmt} {sts rest body : List Stmt} {tb : TS} {u w : SD} {ha : TE} {ta : TD} {hs : TA} {wH : TI} {ts : TDs} {ti : TDw} {hB : TT} {tB : TB}
theorem sim_forL {sl : List Nat} (s' : SimG K CA sl gH tg) (s'' : SimS K CA W tb u) {m : Mp} {h : CH} {H : Hp} {σ : L2.St} {ρ : DE} {D' : Ends} {J : It} {ds : List D} (S : SO K CA m h H σ ρ) (wk : Wk K CA m h H J ds) (q : PostS K CA W m h H D' (dForL tg u ds ρ h)) :
    ∃ (Wl : Nat → Nat → L2.St → Hp → Prop), (∃ n, Wl 0 n σ H) ∧ ∀ i n σ' H', Wl i n σ' H' → (J.stop i H' ∧ D'.nx σ' H') ∨ (J.go i H' ∧ ∃ Nx : L2.St → Hp → Prop, (∀ σ3 H3, Nx σ3 H3 → ∃ n', n' < n ∧ Wl (i + 1) n' σ3 H3) ∧
      ∀ x H2, J.yld i H' x H2 → gH x σ' H2 fun σ2 H2' => tb { D' with nx := Nx, ct := Nx, bk := D'.nx } σ2 H2') := by
  refine ⟨fun i n σ' H' => n + i = ds.length ∧ ∃ m' h' ρ', Stp m h H m' h' H' ∧ SO K CA m' h' H' σ' ρ' ∧ PostS K CA W m' h' H' D' (dForL tg u (ds.drop i) ρ' h'), ⟨ds.length, rfl, m, h, ρ, .refl, S, q⟩, ?_⟩
  rintro i n σ' H' ⟨hm, m', h', ρ', st', S', q'⟩
  cases hd : ds[i]? with
  | none =>
    have hlen : ds.length ≤ i := List.getElem?_eq_none_iff.mp hd
    obtain rfl : i = ds.length := by omega
    rw [List.drop_length] at q'
    exact .inl ⟨wk.stop m' h' H' st'.toSz S'.hr, q' m' σ' H' .refl S'⟩
  | some d =>
    obtain ⟨hlt, ed⟩ := List.getElem?_eq_some_iff.mp hd
    rw [List.drop_eq_getElem_cons hlt, ed] at q'
    obtain ⟨go, yl⟩ := wk.go i m' h' H' d st'.toSz S'.hr hd
    refine .inr ⟨go, fun σ3 H3 => ∃ m3 h3 ρ3, Stp m h H m3 h3 H3 ∧ SO K CA m3 h3 H3 σ3 ρ3 ∧ PostS K CA W m3 h3 H3 D' (dForL tg u (ds.drop (i + 1)) ρ3 h3), fun σ3 H3 n3 => ⟨n - 1, by omega, by omega, n3⟩, fun x H2 y2 => ?_⟩
    obtain ⟨gr, r2⟩ := yl x H2 y2
    have a2 := stp_grow S'.hr gr
    have w2 := S'.hr.grow gr
    have q2 := q'.from a2
    unfold dForL at q2
    refine s' m' h' H2 σ' ρ' x d _ (S'.move a2 w2) r2 (put_post q2 fun ρ4 h4 m4 σ4 H4 s4 S4 q4 => ?_)
    refine s'' m4 h4 H4 σ4 ρ4 _ S4 ?_
    have stp4 : Stp m h H m4 h4 H4 := (st'.trans a2).trans s4
    cases e : u ρ4 h4 with
    | nx ρ5 h5 => rw [e] at q4; exact fun m5 σ5 H5 s5 S5 => ⟨m5, h5, ρ5, stp4.trans s5, S5, q4.from s5⟩
    | ct ρ5 h5 => rw [e] at q4; exact fun m5 σ5 H5 s5 S5 => ⟨m5, h5, ρ5, stp4.trans s5, S5, q4.from s5⟩
    | bk ρ5 h5 => rw [e] at q4; exact q4
    | rt d5 h5 => rw [e] at q4; exact q4
    | ex ρ5 c fs h5 => rw [e] at q4; exact q4
    | no => rw [e] at q4; exact q4
theorem PostI.bindS {m : Mp} {h : CH} {H : Hp} {σ : L2.St} {ρ : DE} {D' : Ends} {H0 : Hp} {r : R (List D × Unl)} {k : List D × Unl → CH → RS} {R' : It → Hp → Prop} (S : SO K CA m h H σ ρ) (q : PostS K CA W m h H D' (r.toS ρ k))
    (f : ∀ w h1 m1 J H1, Stp m h H m1 h1 H1 → HR K CA m1 h1 H1 → Wk K CA m1 h1 H1 J w.1 → UnlOk K CA H0 m h H m1 h1 H1 w.2 → PostS K CA W m h H D' (k w h1) → R' J H1) : PostI K CA W H0 m h H σ R' r := by
  cases r with
  | ok w h1 => exact fun m1 J H1 s S1 wk uo => f w h1 m1 J H1 s S1 wk uo q
  | ex c fs h1 => exact fun m' cls dd H' s S1 x => q m' cls dd σ H' s (S.move s S1) x
  | no => exact q
/-- the end of a walk -/
theorem unl_at {m m1 m2 : Mp} {h h1 h2 : CH} {H H1 H2 : Hp} {u : Unl} {P : Hp → Prop} (s : Stp m h H m1 h1 H1) (uo : UnlOk K CA X.H_0 m h H m1 h1 H1 u) (s2 : Stp m1 h1 H1 m2 h2 H2) (S2 : HR K CA m2 h2 H2)
    (f : ∀ H3, Stp m h H m2 (unlH u h2) H3 → HR K CA m2 (unlH u h2) H3 → (∀ v d, Rp K CA m2 h2 H2 v d → Rp K CA m2 (unlH u h2) H3 v d) → P H3) : UnlP X P H2 := by
  cases u with
  | none => exact .inl (f H2 (s.trans s2) S2 fun _ _ r => r)
  | some p =>
    obtain ⟨k, kvs⟩ := p
    obtain ⟨o', H3, eo, e, s3, S3⟩ := uo m2 h2 H2 s2 S2
    rcases e with rfl | ⟨od, hk, e, n, rfl⟩
    · refine .inl (f _ s3 S3 fun _ _ r => ?_)
      obtain ⟨u, q⟩ := (S2.ob _ _ eo).2.some
      have := r.mv (mv_put (o' := kvs) (u := u) eo)
      rw [upd_eq q] at this
      exact this
    · exact .inr ⟨m2 k, od, _, e, n, f _ s3 S3 fun _ _ r => r.mv (mv_put eo)⟩
theorem post_unl {m m1 : Mp} {h h1 : CH} {H H1 : Hp} {D' : Ends} {r : RS} {u : Unl} (s : Stp m h H m1 h1 H1) (uo : UnlOk K CA X.H_0 m h H m1 h1 H1 u) (q : PostS K CA W m h H D' (r.unl u)) : PostS K CA W m1 h1 H1 (unlE X D') r := by
  have so : ∀ {m2 : Mp} {h2 : CH} {H2 H3 : Hp} {σ : L2.St} {ρ : DE}, SO K CA m2 h2 H2 σ ρ → HR K CA m2 (unlH u h2) H3 → (∀ v d, Rp K CA m2 h2 H2 v d → Rp K CA m2 (unlH u h2) H3 v d) → SO K CA m2 (unlH u h2) H3 σ ρ := fun S2 S3 k => ⟨S3, S2.len, fun i d e => let ⟨v, e1, q⟩ := S2.sl i d e; ⟨v, e1, k v d q⟩⟩
  cases r with
  | nx ρ' h' => exact fun m2 σ2 H2 s2 S2 => unl_at s uo s2 S2.hr fun H3 s3 S3 k => q m2 σ2 H3 s3 (so S2 S3 k)
  | rt d h' => exact fun m2 v H2 s2 S2 r => unl_at s uo s2 S2 fun H3 s3 S3 k => q m2 v H3 s3 S3 (k v d r)
  | bk ρ' h' => exact fun m2 σ2 H2 s2 S2 => unl_at s uo s2 S2.hr fun H3 s3 S3 k => q m2 σ2 H3 s3 (so S2 S3 k)
  | ct ρ' h' => exact fun m2 σ2 H2 s2 S2 => unl_at s uo s2 S2.hr fun H3 s3 S3 k => q m2 σ2 H3 s3 (so S2 S3 k)
  | ex ρ' c fs h' => exact fun m2 cls dd σ2 H2 s2 S2 x => q m2 cls dd σ2 H2 (s.trans s2) S2 x
  | no => exact q
abbrev tForU (X : Cx) (wH : TI) (gH : TG) (tb : TS) : TS := fun D σ H => tFor wH gH tb (unlE X D) σ H
theorem ws_for {sl : List Nat} (hi : WI X K CA W a iter wH ti) (hg : WG X K CA a sl gH tg) (hb : WSs X K CA W body tb u)
    (hp : PI X a iter wH → PG X a gH → PSs X body tb → PS X st (tFor wH gH tb)) : WS X K CA W st (tForU X wH gH tb) (dFor ti tg u) :=
  ⟨ps_unl (hp hi.pe hg.pe hb.pe), fun m h H σ ρ D' S q => hi.sim m h H σ ρ _ S (PostI.bindS S q fun w h1 m1 J H1 s1 S1 wk uo q1 => by
    obtain ⟨Wl, w0, w1⟩ := sim_forL hg.sim hb.sim (S.move s1 S1) wk (post_unl s1 uo q1)
    refine ⟨Wl, w0, fun i n σ' H' hw => ?_⟩
    rcases w1 i n σ' H' hw with z | ⟨z, Nx, z1, z2⟩
    · exact .inl z
    · exact .inr ⟨z, Nx, z1, z2⟩)⟩
/-- a walk's reading, from what is read first -/
theorem PostI.bind {α β : Type} {RR : Mp → CH → Hp → β → α → Prop} {Q1 : β → Hp → Prop} {m : Mp} {h : CH} {H : Hp} {σ : L2.St} {H0 : Hp} {r : R α} {k : α → CH → R (List D × Unl)} {R' : It → Hp → Prop} (q : PostI K CA W H0 m h H σ R' (r.bind k))
    (f : ∀ a h1 m1 b H1, Stp m h H m1 h1 H1 → HR K CA m1 h1 H1 → RR m1 h1 H1 b a → PostI K CA W H0 m h H σ R' (k a h1) → Q1 b H1) : PostG K CA W RR m h H σ Q1 r := by
  cases r with
  | ok a h1 => exact fun m1 b H1 s S rr => f a h1 m1 b H1 s S rr q
  | ex c fs h1 => exact q
  | no => exact q
theorem postI_ite {m : Mp} {h : CH} {H : Hp} {σ : L2.St} {H0 : Hp} {R' : It → Hp → Prop} {c : Prop} [Decidable c] {r : R (List D × Unl)} (t : PostI K CA W H0 m h H σ R' (if c then r else .no)) : c ∧ PostI K CA W H0 m h H σ R' r := by
  by_cases q : c
  · rw [if_pos q] at t; exact ⟨q, t⟩
  · rw [if_neg q] at t; exact t.elim
theorem PostI.walk {m m1 : Mp} {h h1 : CH} {H H1 : Hp} {σ : L2.St} {H0 : Hp} {ds : List D} {J : It} {R' : It → Hp → Prop} (q : PostI K CA W H0 m h H σ R' (.ok (ds, none) h1)) (s : Stp m h H m1 h1 H1) (S : HR K CA m1 h1 H1) (wk : Wk K CA m1 h1 H1 J ds) : R' J H1 := q m1 J H1 s S wk trivial
/-- a list or a tuple is walked -/
def iSeq (K : PySem.W.Frag) (tl : TE) : TI := fun σ H R => tl σ H fun x H1 => ∃ a, x = .ref a ∧ (((∃ xs, SqL K H1 a xs) ∧ R (Itl K a) H1) ∨ ((∃ xs, SqT K H1 a xs) ∧ R (Itt K a) H1))
theorem pi_seq {tl : TE} (hl : PE X l tl) (hK : X.K = K := by rfl) : PI X tge l (iSeq K tl) := by
  subst hK
  refine ⟨fun pins s σ H R I q => thn (hl.run pins s σ H _ I q) fun v s1 hv => ?_⟩
  obtain ⟨x, H1, I1, r1, a, rfl, hq⟩ := hv
  cases r1
  have new : ∀ o, Inv X pins σ H1 { s1 with heap := s1.heap.push o } := fun o => I1.kept (t' := s1.toks) fun b o e => Heap.get?_push_of_some _ e
  have fp : ∀ b ∈ [s1.heap.objs.size], FpOk X pins H1 b := fun b hb => by
    rw [List.mem_singleton] at hb
    rw [hb]
    exact I1.fpOk (Nat.le_refl _) (I1.hok.fresh (Nat.le_refl _))
  rcases hq with ⟨⟨xs, hx⟩, q⟩ | ⟨⟨xs, hx⟩, q⟩
  · obtain ⟨its, _, pl, _⟩ := I1.list hx
    exact wpAny_pyIter_list pl.isList ⟨_, _, _, _, H1, rfl, new _, turn_list a _, ⟨_, Heap.get?_push_size _ rfl, rfl, rfl⟩, fp, q⟩
  · obtain ⟨its, _, pl, _⟩ := I1.tuple hx
    exact wpAny_pyIter_tuple (show s1.heap.IsTuple a its.toArray from pl) ⟨_, _, _, _, H1, rfl, new _, turn_tuple a _, ⟨_, Heap.get?_push_size _ rfl, rfl, rfl⟩, fp, q⟩
section
variable {m : Mp} {h : CH} {H : Hp} {ds : List D} {xs : List V}
theorem wk_list {a : Addr} (k : ∀ m' h' H', Sz m h H m' h' H' → SqL K H' a xs) (r : RpAll K CA m h H xs ds) : Wk K CA m h H (Itl K a) ds :=
  ⟨fun i m' h' H' d s S hd => by
    obtain ⟨v, hv, rv⟩ := r.getD hd
    have e' := k m' h' H' s
    refine ⟨⟨xs, v, e', hv⟩, fun x H2 y => ?_⟩
    obtain ⟨rfl, hy⟩ := y
    have ex := (hy xs e').symm.trans hv
    cases ex
    exact ⟨fun _ _ q => q, rv.mv s.toMv⟩, fun m' h' H' s S => ⟨xs, k m' h' H' s, by rw [r.length]; exact Nat.le_refl _⟩⟩
theorem wk_tup {a : Addr} (k : ∀ m' h' H', Sz m h H m' h' H' → SqT K H' a xs) (r : RpAll K CA m h H xs ds) : Wk K CA m h H (Itt K a) ds :=
  ⟨fun i m' h' H' d s S hd => by
    obtain ⟨v, hv, rv⟩ := r.getD hd
    have e' := k m' h' H' s
    refine ⟨⟨xs, v, e', hv⟩, fun x H2 y => ?_⟩
    obtain ⟨rfl, hy⟩ := y
    have ex := (hy xs e').symm.trans hv
    cases ex
    exact ⟨fun _ _ q => q, rv.mv s.toMv⟩, fun m' h' H' s S => ⟨xs, k m' h' H' s, by rw [r.length]; exact Nat.le_refl _⟩⟩
theorem keep_lst {a : Addr} (n : ¬ Live m h a) (e : H a = some (.lst xs)) : ∀ m' h' H', Sz m h H m' h' H' → SqL K H' a xs := fun m' h' H' s => by
  obtain ⟨_, o, e', l⟩ := s.kp a _ n e
  exact .of (by rw [e', core_lst l.core])
theorem keep_tup {a : Addr} (n : ¬ Live m h a) (e : H a = some (.tup xs)) : ∀ m' h' H', Sz m h H m' h' H' → SqT K H' a xs := fun m' h' H' s => by
  obtain ⟨_, o, e', l⟩ := s.kp a _ n e
  exact .of (by rw [e', core_tup l.core])
theorem all_ints : ∀ ns : List Int, RpAll K CA m h H (ns.map V.int) (ns.map D.int)
  | [] => .nil
  | n :: ns => .cons (.int n) (all_ints ns)
end
theorem wi_seq (h : WE X K CA W l ha ta) (hK : X.K = K := by rfl) : WI X K CA W tge l (iSeq K ha) (dSeqI ta) := by
  refine ⟨pi_seq h.pe hK, fun m hh H σ ρ R' S t => h.sim m hh H σ ρ _ S (PostI.bind t fun d h1 m1 v H1 s1 S1 r1 t1 => ?_)⟩
  cases r1 with
  | lst n e r => exact ⟨_, rfl, .inl ⟨⟨_, .of e⟩, t1.walk s1 S1 (wk_list (keep_lst n e) r)⟩⟩
  | tup n e r => exact ⟨_, rfl, .inr ⟨⟨_, .of e⟩, t1.walk s1 S1 (wk_tup (keep_tup n e) r)⟩⟩
  | ktup e r => exact ⟨_, rfl, .inr ⟨⟨_, sq_emp e⟩, t1.walk s1 S1 (wk_tup (fun _ _ _ _ => sq_emp e) r)⟩⟩
  | scr n e => exact ⟨_, rfl, .inl ⟨⟨_, .inl (.inr ⟨_, e⟩)⟩, t1.walk s1 S1 (wk_list (fun m' h' H' s => by
      obtain ⟨_, o, e', l⟩ := s.kp _ _ n e
      exact .inl (.inr ⟨_, by rw [e', l.frz]⟩)) (all_ints _))⟩⟩
  | kscr e => exact ⟨_, rfl, .inl ⟨⟨_, sl_emp e⟩, t1.walk s1 S1 (wk_list (fun _ _ _ _ => sl_emp e) (all_ints _))⟩⟩
  | @ref k lt =>
    replace t1 : PostI K CA W X.H_0 m hh H σ R' (lockD (.ref k) h1) := t1
    unfold lockD at t1
    simp only at t1
    split at t1
    · rename_i ds eo
      obtain ⟨xs, eH, r, s2, S2⟩ := lockL_ok S1 eo
      refine ⟨m1 k, rfl, .inl ⟨⟨xs, .of eH⟩, t1 m1 _ H1 (s1.trans s2) S2 (wk_list (fun m' h' H' s => ?_) (r.move s2)) ?_⟩⟩
      · obtain ⟨_, q⟩ := s.lk k _ lt put_same id
        exact .of (q.trans eH)
      · intro m2 h2 H2 s3 S3
        obtain ⟨q1, q2, q3⟩ := unlockL_ok S1 eo s3 S3
        exact ⟨_, H2, q1, .inl rfl, s1.trans q2, q3⟩
    · rename_i ds eo
      have x := (S1.ob k _ eo).2
      cases x with
      | @lkl xs _ eH r =>
        refine ⟨m1 k, rfl, .inl ⟨⟨xs, .of eH⟩, t1.walk s1 S1 (wk_list (fun m' h' H' s => ?_) r)⟩⟩
        obtain ⟨_, q⟩ := s.lk k _ lt eo id
        exact .of (q.trans eH)
    · exact t1.elim
  | _ => exact t1.elim
theorem wk_range {m : Mp} {h : CH} {H : Hp} (lo : Int) (n : Nat) : Wk K CA m h H (Itr lo n) (rgD lo n) :=
  ⟨fun i m' h' H' d s S hd => by
    unfold rgD at hd
    rw [List.getElem?_map] at hd
    cases hr : (List.range n)[i]? with
    | none => rw [hr] at hd; cases hd
    | some j =>
      rw [hr] at hd
      obtain ⟨hlt, ej⟩ := List.getElem?_eq_some_iff.mp hr
      rw [List.getElem_range] at ej
      subst ej
      cases hd
      refine ⟨by show i < n; simpa using hlt, fun x H2 y => ?_⟩
      obtain ⟨rfl, rfl⟩ := y
      exact ⟨fun _ _ q => q, .int _⟩, fun m' h' H' s S => by
    show n ≤ (rgD lo n).length
    unfold rgD
    rw [List.length_map, List.length_range]
    exact Nat.le_refl _⟩
theorem wi_rng1 (h : WA X K CA W es hs ts) (hp : PA X es hs → PI X tge l (iRng1 hs)) : WI X K CA W tge l (iRng1 hs) (dRng1 ts) := by
  refine ⟨hp h.pe, fun m hh H σ ρ R' S t => h.sim m hh H σ ρ _ S (PostI.bind t fun ds h1 m1 vs H1 s1 S1 r1 t1 => ?_)⟩
  split at t1
  · rename_i n
    obtain ⟨⟨c1, c2⟩, t1⟩ := postI_ite t1
    cases r1 with
    | cons r1 r2 =>
      cases r1
      cases r2
      exact ⟨n, rfl, c1, c2, t1.walk s1 S1 (wk_range 0 n.toNat)⟩
  · exact t1.elim
theorem wi_rng2 (h : WA X K CA W es hs ts) (hp : PA X es hs → PI X tge l (iRng2 hs)) : WI X K CA W tge l (iRng2 hs) (dRng2 ts) := by
  refine ⟨hp h.pe, fun m hh H σ ρ R' S t => h.sim m hh H σ ρ _ S (PostI.bind t fun ds h1 m1 vs H1 s1 S1 r1 t1 => ?_)⟩
  split at t1
  · rename_i i j
    obtain ⟨c, t1⟩ := postI_ite t1
    cases r1 with
    | cons r1 r2 =>
      cases r1
      cases r2 with
      | cons r2 r3 =>
        cases r2
        cases r3
        exact ⟨i, j, rfl, c, t1.walk s1 S1 (wk_range i (j - i).toNat)⟩
  · exact t1.elim
theorem enD_get : ∀ (xs : List D) (k i : Nat) (d : D), (enD k xs)[i]? = some d → ∃ x, xs[i]? = some x ∧ d = .tup [.int ((k + i : Nat) : Int), x]
  | [], k, i, d, h => by simp [enD] at h
  | x :: xs, k, 0, d, h => by simp [enD] at h; exact ⟨x, rfl, by rw [← h]; rfl⟩
  | x :: xs, k, i + 1, d, h => by
    obtain ⟨y, h1, h2⟩ := enD_get xs (k + 1) i d (by simpa [enD] using h)
    exact ⟨y, by simpa using h1, by rw [h2]; congr 4; omega⟩
theorem enD_length : ∀ (xs : List D) (k : Nat), (enD k xs).length = xs.length
  | [], _ => rfl
  | _ :: xs, k => by simp [enD, enD_length xs (k + 1)]
theorem wk_enum {m : Mp} {h : CH} {H : Hp} {a : Addr} {xs : List V} {ds : List D} (n : ¬ Live m h a) (e : H a = some (.lst xs)) (r : RpAll K CA m h H xs ds) : Wk K CA m h H (Ite K a) (enD 0 ds) :=
  ⟨fun i m' h' H' d s S hd => by
    obtain ⟨y, hy, rfl⟩ := enD_get ds 0 i d hd
    obtain ⟨v, hv, rv⟩ := r.getD hy
    have e' := keep_lst (K := K) n e m' h' H' s
    refine ⟨⟨xs, v, e', hv⟩, fun x H2 yl => ?_⟩
    obtain ⟨T, z, rfl, nT, rfl, hz⟩ := yl
    have ex := (hz xs e').symm.trans hv
    cases ex
    have ri : ((0 + i : Nat) : Int) = ((i : Nat) : Int) := by omega
    rw [ri]
    exact ⟨upd_new nT, .tup (S.fresh nT) upd_same (.cons (.int _) (.cons ((rv.mv s.toMv).move (stp_laid S nT)) .nil))⟩, fun m' h' H' s S => ⟨xs, keep_lst n e m' h' H' s, by rw [enD_length, r.length]; exact Nat.le_refl _⟩⟩
theorem wi_enum (h : WA X K CA W es hs ts) (hp : PA X es hs → PI X tge l (iEnum K hs)) : WI X K CA W tge l (iEnum K hs) (dEnum ts) := by
  refine ⟨hp h.pe, fun m hh H σ ρ R' S t => h.sim m hh H σ ρ _ S (PostI.bind t fun ds h1 m1 vs H1 s1 S1 r1 t1 => ?_)⟩
  split at t1
  · cases r1 with
    | cons r1 r2 =>
      cases r1 with
      | lst n e r =>
        cases r2
        exact ⟨_, _, rfl, .of e, t1.walk s1 S1 (wk_enum n e r)⟩
  · exact t1.elim
theorem sim_while {tC : TT} {tb' : TS} (s : SimT K CA W tC tB) (s' : SimS K CA W tb' u) (N : Nat) : SimS K CA W (tWhile tC tb') (dWhile tB u N) := fun m h H σ ρ D' S q => by
  refine ⟨fun n σ' H' => ∃ m' h' ρ', Stp m h H m' h' H' ∧ SO K CA m' h' H' σ' ρ' ∧ PostS K CA W m' h' H' D' (dWhile tB u n ρ' h'), ⟨N, m, h, ρ, .refl, S, q⟩, ?_⟩
  rintro n σ' H' ⟨m', h', ρ', st', S', q'⟩
  cases n with
  | zero => exact q'.elim
  | succ n =>
    refine s m' h' H' σ' ρ' _ S' (PostS.bind S' q' fun b h1 m1 b' H1 s1 S1 e q1 => ?_)
    cases (show b' = b from e)
    have S1' := S'.move s1 S1
    cases b with
    | false => exact q1 m1 σ' H1 .refl S1'
    | true =>
      refine ⟨fun σ3 H3 => ∃ m3 h3 ρ3, Stp m h H m3 h3 H3 ∧ SO K CA m3 h3 H3 σ3 ρ3 ∧ PostS K CA W m3 h3 H3 D' (dWhile tB u n ρ3 h3), fun σ3 H3 z => ⟨n, Nat.lt_succ_self _, z⟩, ?_⟩
      have stp1 : Stp m h H m1 h1 H1 := st'.trans s1
      refine s' m1 h1 H1 σ' ρ' _ S1' ?_
      replace q1 : PostS K CA W m1 h1 H1 D' (match u ρ' h1 with
        | .nx ρ2 h2 => dWhile tB u n ρ2 h2
        | .ct ρ2 h2 => dWhile tB u n ρ2 h2
        | .bk ρ2 h2 => .nx ρ2 h2
        | x => x) := q1
      cases e : u ρ' h1 with
      | nx ρ5 h5 => rw [e] at q1; exact fun m5 σ5 H5 s5 S5 => ⟨m5, h5, ρ5, stp1.trans s5, S5, q1.from s5⟩
      | ct ρ5 h5 => rw [e] at q1; exact fun m5 σ5 H5 s5 S5 => ⟨m5, h5, ρ5, stp1.trans s5, S5, q1.from s5⟩
      | bk ρ5 h5 => rw [e] at q1; exact q1
      | rt d5 h5 => rw [e] at q1; exact q1
      | ex ρ5 c fs h5 => rw [e] at q1; exact q1
      | no => rw [e] at q1; exact q1
theorem ws_while (N : Nat) (hc : WT X K CA W c hB tB) (hb : WSs X K CA W body tb u) (hp : PT X c hB → PSs X body tb → PS X st (tWhile hB tb)) : WS X K CA W st (tWhile hB tb) (dWhile tB u N) :=
  ⟨hp hc.pe hb.pe, sim_while hc.sim hb.sim N⟩
end
end CM
namespace CM
open PySem PySem.Spec PyProof.Rows L2

/-! ### dicts walked: the dict is locked meanwhile -/
def tLk (X : Cx) (td : TE) : TE := fun σ H Q => td σ H fun x H1 => ∃ d, x = .ref d ∧ ((∃ u, H1 d = some u ∧ Mut (some u) ∧ ∀ od, (∀ o' u', X.H_0 d ≠ some (.frz o' u')) → Q x (upd H1 d (.frz od u))) ∨ Q x H1)
theorem pe_lockA {X : Cx} {e : Expr} {td : TE} (x : PE X e td) : PE X e (tLk X td) := by
  refine ⟨fun pins s σ H Q I hw => thn (x.run pins s σ H _ I hw) fun v s1 q => ?_⟩
  obtain ⟨y, H1, I1, r, d, rfl, q⟩ := q
  rcases q with ⟨u, hd, mu, q⟩ | q
  · obtain ⟨od, I2⟩ := I1.lock hd mu
    exact ⟨_, _, I2, r, q od (I1.nofrz hd mu)⟩
  · exact ⟨_, H1, I1, r, q⟩
def kD : Key → D
  | .inl i => .int i
  | .inr x => .str x
def keysD (kvs : List (Key × D)) : List D := kvs.map fun kv => kD kv.1
def valsD (kvs : List (Key × D)) : List D := kvs.map (·.2)
def pairsD (kvs : List (Key × D)) : List D := kvs.map fun kv => .tup [kD kv.1, kv.2]
def dDictI (its : List (Key × D) → List D) (t : TD) : TDw := fun ρ h => (t ρ h).bind fun d h => match d with
  | .dct kvs => .ok (its kvs, none) h
  | .ref k => match h.ob k with
    | some (.dct kvs) => .ok (its kvs, some (k, .dct kvs)) (h.put k (.lck kvs))
    | some (.lck kvs) => .ok (its kvs, none) h
    | _ => .no
  | _ => .no
/-- iterators over a locked dict -/
def DIt (K : PySem.W.Frag) (CA : Nat → Addr) (mk : Addr → Obj → List (Key × V) → It) (its : List (Key × D) → List D) : Prop :=
  ∀ (m : Mp) (h : CH) (H : Hp) (a : Addr) (od : Obj) (hk : List (Key × V)) (kvs : List (Key × D)), (∀ m' h' H', Sz m h H m' h' H' → H' a = some (.frz od (.dK hk))) → hk.map (·.1) = kvs.map (·.1) → RpAll K CA m h H (hk.map (·.2)) (kvs.map (·.2)) → Wk K CA m h H (mk a od hk) (its kvs)
section
variable {X : Cx} {K : PySem.W.Frag} {CA : Nat → Addr} {W : WX} {e tge iter : Expr} {ha : TE} {ta : TD} {m : Mp} {h : CH} {H : Hp}
theorem rp_kD (k : Key) : Rp K CA m h H (kV k) (kD k) := by
  cases k with
  | inl i => exact .int i
  | inr x => exact .str x
theorem kv_at {hk : List (Key × V)} {kvs : List (Key × D)} {i : Nat} {k : Key} {d : D} (en : hk.map (·.1) = kvs.map (·.1)) (r : RpAll K CA m h H (hk.map (·.2)) (kvs.map (·.2))) (e : kvs[i]? = some (k, d)) : ∃ v, hk[i]? = some (k, v) ∧ Rp K CA m h H v d := by
  have e2 : (kvs.map (·.2))[i]? = some d := by rw [List.getElem?_map, e]; rfl
  obtain ⟨v, e3, rv⟩ := r.getD e2
  have e1 : (hk.map (·.1))[i]? = some k := by rw [en, List.getElem?_map, e]; rfl
  rw [List.getElem?_map] at e1 e3
  cases q : hk[i]? with
  | none => rw [q] at e1; cases e1
  | some p =>
    rw [q] at e1 e3
    cases e1; cases e3
    exact ⟨_, rfl, rv⟩
theorem len_of {hk : List (Key × V)} {kvs : List (Key × D)} (en : hk.map (·.1) = kvs.map (·.1)) : hk.length = kvs.length := by simpa using congrArg List.length en
theorem dit_keys : DIt K CA Itk keysD := fun m h H a od hk kvs keep en r =>
  ⟨fun i m' h' H' d s S hd => by
    unfold keysD at hd
    rw [List.getElem?_map] at hd
    cases q : kvs[i]? with
    | none => rw [q] at hd; cases hd
    | some p =>
      rw [q] at hd
      cases hd
      obtain ⟨v, e, rv⟩ := kv_at en r q
      have hi := (List.getElem?_eq_some_iff.mp e).1
      refine ⟨⟨keep m' h' H' s, hi⟩, fun x H2 y => ?_⟩
      obtain ⟨rfl, k, v', e', rfl⟩ := y
      rw [e] at e'; cases e'
      exact ⟨fun _ _ q => q, rp_kD _⟩, fun m' h' H' s S => ⟨keep m' h' H' s, by rw [len_of en]; unfold keysD; rw [List.length_map]; exact Nat.le_refl _⟩⟩
theorem dit_vals : DIt K CA Itd valsD := fun m h H a od hk kvs keep en r =>
  ⟨fun i m' h' H' d s S hd => by
    unfold valsD at hd
    rw [List.getElem?_map] at hd
    cases q : kvs[i]? with
    | none => rw [q] at hd; cases hd
    | some p =>
      rw [q] at hd
      cases hd
      obtain ⟨v, e, rv⟩ := kv_at en r q
      have hi := (List.getElem?_eq_some_iff.mp e).1
      refine ⟨⟨keep m' h' H' s, hi⟩, fun x H2 y => ?_⟩
      obtain ⟨rfl, k, e'⟩ := y
      rw [e] at e'; cases e'
      exact ⟨fun _ _ q => q, rv.mv s.toMv⟩, fun m' h' H' s S => ⟨keep m' h' H' s, by rw [len_of en]; unfold valsD; rw [List.length_map]; exact Nat.le_refl _⟩⟩
theorem dit_pairs : DIt K CA Iti pairsD := fun m h H a od hk kvs keep en r =>
  ⟨fun i m' h' H' d s S hd => by
    unfold pairsD at hd
    rw [List.getElem?_map] at hd
    cases q : kvs[i]? with
    | none => rw [q] at hd; cases hd
    | some p =>
      rw [q] at hd
      cases hd
      obtain ⟨v, e, rv⟩ := kv_at en r q
      have hi := (List.getElem?_eq_some_iff.mp e).1
      refine ⟨⟨keep m' h' H' s, hi⟩, fun x H2 y => ?_⟩
      obtain ⟨T, k, v', e', rfl, nT, rfl⟩ := y
      rw [e] at e'; cases e'
      exact ⟨upd_new nT, .tup (S.fresh nT) upd_same (.cons (rp_kD _) (.cons ((rv.mv s.toMv).move (stp_laid S nT)) .nil))⟩, fun m' h' H' s S => ⟨keep m' h' H' s, by rw [len_of en]; unfold pairsD; rw [List.length_map]; exact Nat.le_refl _⟩⟩
theorem frozen_lock {a : Addr} {hk : List (Key × V)} (S : HR K CA m h H) (nl : ¬ Live m h a) (e : H a = some (.dK hk)) (od : Obj) : Stp m h H m h (upd H a (.frz od (.dK hk))) ∧ HR K CA m h (upd H a (.frz od (.dK hk))) := by
  have s2 : Stp m h H m h (upd H a (.frz od (.dK hk))) := by
    refine .mk' ⟨Nat.le_refl _, fun _ _ => rfl, fun b w l q => ⟨l, ?_⟩⟩ (fun k kv _ q _ => ⟨q, upd_ne fun z => nl (.inl ⟨k, _, q, z⟩)⟩) rfl fun b l => upd_ne fun z => nl (.inr (by rw [← z]; exact l))
    by_cases hb : b = a
    · subst hb; rw [e] at q; cases q; exact ⟨_, upd_same, .inr ⟨od, hk, rfl, rfl⟩⟩
    · exact ⟨w, by rw [upd_ne hb]; exact q, .inl rfl⟩
  refine ⟨s2, fun k w q => ⟨(S.ob k w q).1, (S.ob k w q).2.move s2 (upd_ne fun z => nl (.inl ⟨k, _, q, z⟩))⟩, S.inj, S.zn, fun b l => ?_⟩
  obtain ⟨w, q⟩ := S.zh b l
  exact ⟨w, by rw [upd_ne (fun z => nl (.inr (by rw [← z]; exact l)))]; exact q⟩
/-- the dict of the walk: locked, or it was -/
theorem wi_dict {mk : Addr → Obj → List (Key × V) → It} {its : List (Key × D) → List D} {G : V → Hp → (It → Hp → Prop) → Prop} (hd : DIt K CA mk its) (x : WE X K CA W e ha ta) (pi : PE X e (tLk X ha) → PI X tge iter (fun σ H R => tLk X ha σ H fun x H1 => G x H1 R))
    (hw : ∀ x H1 R', (∃ d o kvs, x = .ref d ∧ H1 d = some (.frz o (.dK kvs)) ∧ R' (mk d o kvs) H1) → G x H1 R') : WI X K CA W tge iter (fun σ H R => tLk X ha σ H fun x H1 => G x H1 R) (dDictI its ta) := by
  refine ⟨pi (pe_lockA x.pe), fun m hh H σ ρ R' S t => x.sim m hh H σ ρ _ S (PostI.bind t fun d h1 m1 v H1 s1 S1 r1 t1 => ?_)⟩
  cases r1 with
  | @dct a o hk kvs nl e c en r =>
    rcases core_dK c with rfl | ⟨ob, rfl⟩
    · refine ⟨a, rfl, .inl ⟨_, e, trivial, fun od nf => hw _ _ _ ⟨a, od, hk, rfl, upd_same, ?_⟩⟩⟩
      obtain ⟨s2, S2⟩ := frozen_lock S1 nl e od
      refine t1.walk (s1.trans s2) S2 (hd m1 h1 _ a od hk kvs (fun m' h' H' s => ?_) en (r.move s2))
      obtain ⟨_, o', e', l⟩ := s.kp a _ nl upd_same
      rw [e', l.frz]
    · refine ⟨a, rfl, .inr (hw _ _ _ ⟨a, ob, hk, rfl, e, t1.walk s1 S1 (hd m1 h1 _ a ob hk kvs (fun m' h' H' s => ?_) en r)⟩)⟩
      obtain ⟨_, o', e', l⟩ := s.kp a _ nl e
      rw [e', l.frz]
  | @ref k lt =>
    simp only at t1
    split at t1
    · rename_i kvs eo
      obtain ⟨hk, eH, lk⟩ := lock_ok S1 eo
      refine ⟨m1 k, rfl, .inl ⟨_, eH, trivial, fun od nf => hw _ _ _ ⟨m1 k, od, hk, rfl, upd_same, ?_⟩⟩⟩
      obtain ⟨s2, S2⟩ := lk od
      refine t1 m1 _ _ (s1.trans s2) S2 (hd m1 _ _ (m1 k) od hk kvs (fun m' h' H' s => ?_) ?_ ?_) ?_
      · obtain ⟨_, q⟩ := s.lk k _ lt put_same id
        rw [q, upd_same]
      · have x := (S1.ob k _ eo).2
        cases x with
        | dct q en r => rw [eH] at q; cases q; exact en
      · have x := (S1.ob k _ eo).2
        cases x with
        | dct q en r => rw [eH] at q; cases q; exact r.move s2
      · intro m2 h2 H2 s3 S3
        obtain ⟨q1, q2, q3⟩ := unlock_ok S1 eo s3 S3
        have mk : m2 k = m1 k := s3.mp k lt
        exact ⟨_, _, (s3.lk k _ lt put_same id).1, .inr ⟨od, hk, q1, by rw [mk]; exact nf, rfl⟩, s1.trans q2, q3⟩
    · rename_i kvs eo
      have x := (S1.ob k _ eo).2
      cases x with
      | @lck ob hk _ q en r =>
        refine ⟨m1 k, rfl, .inr (hw _ _ _ ⟨m1 k, ob, hk, rfl, q, t1.walk s1 S1 (hd m1 h1 _ (m1 k) ob hk kvs (fun m' h' H' s => ?_) en r)⟩)⟩
        obtain ⟨_, q2⟩ := s.lk k _ lt eo id
        rw [q2, q]
    · exact t1.elim
  | _ => exact t1.elim
theorem wi_vals (x : WE X K CA W e ha ta) (pi : PE X e (tLk X ha) → PI X tge iter (iVals (tLk X ha))) : WI X K CA W tge iter (iVals (tLk X ha)) (dDictI valsD ta) := wi_dict (G := fun x H1 R => ∃ d o kvs, x = .ref d ∧ H1 d = some (.frz o (.dK kvs)) ∧ R (Itd d o kvs) H1) dit_vals x pi fun _ _ _ q => q
theorem wi_items (x : WE X K CA W e ha ta) (pi : PE X e (tLk X ha) → PI X tge iter (iItems (tLk X ha))) : WI X K CA W tge iter (iItems (tLk X ha)) (dDictI pairsD ta) := wi_dict (G := fun x H1 R => ∃ d o kvs, x = .ref d ∧ H1 d = some (.frz o (.dK kvs)) ∧ R (Iti d o kvs) H1) dit_pairs x pi fun _ _ _ q => q
theorem wi_keys (x : WE X K CA W e ha ta) : WI X K CA W tge e (iKeys (tLk X ha)) (dDictI keysD ta) := wi_dict (G := fun x H1 R => ∃ d o, x = .ref d ∧ ((∃ kvs, H1 d = some (.frz o (.dK kvs)) ∧ R (Itk d o kvs) H1) ∨ ∃ kvs, H1 d = some (.frz o (.dT kvs)) ∧ R (Itkt d o kvs) H1)) dit_keys x pi_keys fun _ _ _ ⟨d, o, kvs, e, e1, q⟩ => ⟨d, o, e, .inl ⟨kvs, e1, q⟩⟩
/-! ### comprehensions -/
/-- the comprehension's own names are not there yet -/
def wipeD (ρ : DE) : List Nat → DE
  | [] => ρ
  | v :: vs => (wipeD ρ vs).set v none
def dYes : TB := fun _ h => .ok true h
def dLcL (tg : TGD) (tt : TB) (te : TD) (ρ0 : DE) : List D → CH → R (List D)
  | [], h => .ok [] h
  | d :: r, h => (tg d ρ0 h).calm fun ρ2 h => (tt ρ2 h).calm fun b h => if b = true then (te ρ2 h).calm fun y h => (dLcL tg tt te ρ0 r h).bind fun ys h => .ok (y :: ys) h
    else dLcL tg tt te ρ0 r h
def dLc (nm : Bool) (ti : TDw) (tg : TGD) (tt : TB) (te : TD) (vs : List Nat) : TD := fun ρ h => (ti ρ h).bind fun w h => if w.1.length ≤ sizeLine then ((dLcL tg tt te (wipeD ρ vs) w.1 h).bind fun ys h => mkL nm ys h).unl w.2 else .no
section
variable {m m1 m2 : Mp} {h1 h2 : CH} {H1 H2 : Hp} {σ : L2.St} {ρ : DE} {p : Addr} {Q' : VK}
theorem wipe_at {σ : L2.St} {vs : List Nat} {j : Nat} (h : j ∉ vs) : (wipe σ vs)[j]? = σ[j]? := by
  induction vs with
  | nil => rfl
  | cons v vs ih =>
    simp only [List.mem_cons, not_or] at h
    unfold wipe
    rw [List.getElem?_set_ne (Ne.symm h.1)]
    exact ih h.2
theorem wipeD_len (ρ : DE) (vs : List Nat) : (wipeD ρ vs).length = ρ.length := by
  induction vs with
  | nil => rfl
  | cons v vs ih => unfold wipeD; rw [List.length_set, ih]
theorem wipeD_some {ρ : DE} {vs : List Nat} {j : Nat} {s : D} (h : (wipeD ρ vs)[j]? = some (some s)) : j ∉ vs ∧ ρ[j]? = some (some s) := by
  induction vs with
  | nil => exact ⟨by simp, h⟩
  | cons v vs ih =>
    unfold wipeD at h
    rcases set_some h with ⟨_, q⟩ | ⟨n, q⟩
    · cases q
    · obtain ⟨h1, h2⟩ := ih q
      exact ⟨by simp [n, h1], h2⟩
theorem SO.wiped (S : SO K CA m h H σ ρ) (vs : List Nat) : SO K CA m h H (wipe σ vs) (wipeD ρ vs) :=
  ⟨S.hr, by rw [wipe_length, wipeD_len]; exact S.len, fun j s e => by
    obtain ⟨h1, h2⟩ := wipeD_some e
    obtain ⟨v, e1, r⟩ := S.sl j s h2
    exact ⟨v, by rw [wipe_at h1]; exact e1, r⟩⟩
abbrev W0 : WX := fun _ _ _ _ => False
theorem wipe_none {σ : L2.St} {vs : List Nat} {j : Nat} (h : j ∈ vs) : (wipe σ vs)[j]? = none ∨ (wipe σ vs)[j]? = some none := by
  induction vs with
  | nil => cases h
  | cons w ws ih =>
    unfold wipe
    by_cases q : w = j
    · subst q
      by_cases l : w < (wipe σ ws).length
      · exact .inr (List.getElem?_set_self l)
      · exact .inl (by rw [List.getElem?_eq_none_iff, List.length_set]; omega)
    · rw [List.getElem?_set_ne q]
      rcases List.mem_cons.mp h with z | z
      · exact absurd z.symm q
      · exact ih z
theorem wipe_eq {σ σ' : L2.St} {vs : List Nat} (hl : σ'.length = σ.length) (h : ∀ j, j ∉ vs → σ'[j]? = σ[j]?) : wipe σ' vs = wipe σ vs := by
  apply List.ext_getElem?
  intro j
  by_cases hj : j ∈ vs
  · have l1 := wipe_length σ' vs
    have l2 := wipe_length σ vs
    by_cases lt : j < σ.length
    · have k1 := wipe_none (σ := σ') hj
      have k2 := wipe_none (σ := σ) hj
      have n1 : (wipe σ' vs)[j]? ≠ none := fun z => by have := List.getElem?_eq_none_iff.mp z; omega
      have n2 : (wipe σ vs)[j]? ≠ none := fun z => by have := List.getElem?_eq_none_iff.mp z; omega
      rw [k1.resolve_left n1, k2.resolve_left n2]
    · rw [List.getElem?_eq_none_iff.mpr (by omega), List.getElem?_eq_none_iff.mpr (by omega)]
  · rw [wipe_at hj, wipe_at hj]
    exact h j hj
/-- what was made at p gets a name -/
theorem named_kp {zs : List Addr} (S2 : HR K CA m2 h2 H2) (z2 : m2.z = p :: zs) {o : MO} : ∀ a w, ¬ Live m2 h2 a → H2 a = some w → ¬ Live (mpNew ⟨m2.f, zs⟩ h2 p) (h2.new o) a ∧ ∃ o', H2 a = some o' ∧ Lk w o' := fun a w l e => ⟨fun z => l (by
    rcases z with ⟨k, u, q, rfl⟩ | z
    · unfold CH.new at q
      by_cases c : k = h2.nx
      · subst c
        have e2 : (mpNew ⟨m2.f, zs⟩ h2 p) h2.nx = p := mpNew_nx
        exact .inr (by rw [z2, e2]; exact List.mem_cons_self ..)
      · simp only [if_neg c] at q
        have e2 : (mpNew ⟨m2.f, zs⟩ h2 p) k = m2 k := mpNew_lt (m := ⟨m2.f, zs⟩) (S2.ob k u q).1
        exact .inl ⟨k, u, q, e2.symm⟩
    · exact .inr (by rw [z2]; exact List.mem_cons_of_mem _ z)), w, e, .inl rfl⟩
theorem RpAll.named {zs : List Addr} (S2 : HR K CA m2 h2 H2) (z2 : m2.z = p :: zs) {o : MO} {vs : List V} {ds : List D} (r : RpAll K CA m2 h2 H2 vs ds) : RpAll K CA (mpNew ⟨m2.f, zs⟩ h2 p) (h2.new o) H2 vs ds :=
  RpAll.mv0 (m := m2) (h := h2) (H := H2) (m' := mpNew ⟨m2.f, zs⟩ h2 p) (h' := h2.new o) (H' := H2) (Nat.le_succ _) (fun k l => mpNew_lt (m := ⟨m2.f, zs⟩) l) (named_kp S2 z2) r
theorem done_named (S : HR K CA m1 h1 H1) (n : H1 p = none) {u : HO} (s : Sc p (m1.add p) h1 (upd H1 p u) m2 h2 H2) (S2 : HR K CA m2 h2 H2) {o : MO} (x : MOk K CA (mpNew ⟨m2.f, m1.z⟩ h2 p) (h2.new o) H2 p o) :
    Stp m1 h1 H1 (mpNew ⟨m2.f, m1.z⟩ h2 p) (h2.new o) H2 ∧ HR K CA (mpNew ⟨m2.f, m1.z⟩ h2 p) (h2.new o) H2 := by
  have z2 : m2.z = p :: m1.z := s.z
  have sd := stp_done S n s
  have key : ∀ j u, (h2.new o).ob j = some u → (j = h2.nx ∧ u = o) ∨ (j < h2.nx ∧ h2.ob j = some u) := fun j u e => by
    unfold CH.new at e
    by_cases q : j = h2.nx
    · simp only [if_pos q] at e; cases e; exact .inl ⟨q, rfl⟩
    · simp only [if_neg q] at e
      exact .inr ⟨(S2.ob j u e).1, e⟩
  have pz : p ∈ m2.z := by rw [z2]; exact List.mem_cons_self ..
  have off : ∀ j u, h2.ob j = some u → m2 j ≠ p := fun j u e z => S2.zn j u e (by rw [z]; exact pz)
  have at0 : (mpNew ⟨m2.f, m1.z⟩ h2 p) h2.nx = p := mpNew_nx
  have at1 : ∀ k, k < h2.nx → (mpNew ⟨m2.f, m1.z⟩ h2 p) k = m2 k := fun k l => mpNew_lt (m := ⟨m2.f, m1.z⟩) l
  refine ⟨.mk' ⟨Nat.le_trans sd.nx (Nat.le_succ _), fun k l => (at1 k (Nat.lt_of_lt_of_le l sd.nx)).trans (sd.mp k l), fun a w l e => ?_⟩ (fun k kvs l e ld => ?_) rfl (fun a l => sd.zk a l), ⟨fun j w e => ?_, fun i j u w e1 e2 e3 => ?_, fun j w e => ?_, fun a l => ?_⟩⟩
  · have ne : a ≠ p := ne_of_none e n
    obtain ⟨l2, o', e', lk⟩ := s.kp a w (fun z => by
      rcases z with ⟨k, u, q, rfl⟩ | z
      · exact l (.inl ⟨k, u, q, rfl⟩)
      · rcases List.mem_cons.mp z with z | z
        · exact ne z
        · exact l (.inr z)) (by rw [upd_ne ne]; exact e)
    exact ⟨(named_kp S2 z2 a o' l2 e').1, o', e', lk⟩
  · obtain ⟨a1, a2⟩ := sd.lk k kvs l e ld
    refine ⟨?_, a2⟩
    unfold CH.new
    simp only [if_neg (Nat.ne_of_lt (Nat.lt_of_lt_of_le l sd.nx))]
    exact a1
  · rcases key j w e with ⟨rfl, rfl⟩ | ⟨l, q⟩
    · exact ⟨Nat.lt_succ_self _, by rw [at0]; exact x⟩
    · refine ⟨Nat.lt_succ_of_lt l, ?_⟩
      rw [at1 j l]
      exact (S2.ob j w q).2.mv ⟨Nat.le_succ _, at1, named_kp S2 z2⟩ rfl
  · rcases key i u e1 with ⟨rfl, rfl⟩ | ⟨l1, q1⟩
    · rcases key j w e2 with ⟨rfl, rfl⟩ | ⟨l2, q2⟩
      · rfl
      · rw [at0, at1 j l2] at e3
        exact absurd e3.symm (off j w q2)
    · rcases key j w e2 with ⟨rfl, rfl⟩ | ⟨l2, q2⟩
      · rw [at0, at1 i l1] at e3
        exact absurd e3 (off i u q1)
      · rw [at1 i l1, at1 j l2] at e3
        exact S2.inj i j u w q1 q2 e3
  · rcases key j w e with ⟨rfl, rfl⟩ | ⟨l, q⟩
    · rw [at0]; exact fun z => S.fresh n (.inr z)
    · rw [at1 j l]; exact fun z => S2.zn j w q (by rw [z2]; exact List.mem_cons_of_mem _ z)
  · exact S2.zh a (by rw [z2]; exact List.mem_cons_of_mem _ l)
/-- what was made at p is data -/
theorem done_data (S : HR K CA m1 h1 H1) (n : H1 p = none) {u : HO} (s : Sc p (m1.add p) h1 (upd H1 p u) m2 h2 H2) (S2 : HR K CA m2 h2 H2) : ¬ Live ⟨m2.f, m1.z⟩ h2 p := fun z => by
  have z2 : m2.z = p :: m1.z := s.z
  rcases z with ⟨k, o, e, q⟩ | z
  · exact S2.zn k o e (by rw [z2]; have q' : m2 k = p := q; rw [q']; exact List.mem_cons_self ..)
  · exact S.fresh n (.inr z)
theorem doneL {nm : Bool} {acc : List V} {ds : List D} {Q1 : VK} {mb : Mp} {hb : CH} {Hb : Hp} (sb : Stp mb hb Hb m1 h1 H1) (S : HR K CA m1 h1 H1) (n : H1 p = none) {u : HO} (s : Sc p (m1.add p) h1 (upd H1 p u) m2 h2 H2) (S2 : HR K CA m2 h2 H2) (e : H2 p = some (.lst acc)) (r : RpAll K CA m2 h2 H2 acc ds) {un : Unl}
    (uo : UnlOk K CA X.H_0 mb hb Hb m1 h1 H1 un) (t : PostE K CA W mb hb Hb σ Q1 ((mkL nm ds h2).unl un)) : UnlP X (Q1 (.ref p)) H2 := by
  have z2 : m2.z = p :: m1.z := s.z
  cases nm with
  | true =>
    obtain ⟨s3, S3⟩ := done_named (o := .lst ds) S n s S2 (.lst e (r.named S2 z2))
    refine unl_at sb uo s3 S3 fun H3 s4 S4 k => t _ _ H3 s4 S4 (k _ _ ?_)
    have := Rp.ref (K := K) (CA := CA) (m := mpNew ⟨m2.f, m1.z⟩ h2 p) (h := h2.new (.lst ds)) (H := H2) (k := h2.nx) (Nat.lt_succ_self _)
    rw [show (mpNew ⟨m2.f, m1.z⟩ h2 p) h2.nx = p from mpNew_nx] at this
    exact this
  | false => exact unl_at sb uo (stp_done S n s) (S2.done z2) fun H3 s4 S4 k => t _ _ H3 s4 S4 (k _ _ (.lst (done_data S n s S2) e (r.done z2)))
theorem doneD {nm : Bool} {acc : List (Key × V)} {ds : List (Key × D)} {Q1 : VK} {mb : Mp} {hb : CH} {Hb : Hp} (sb : Stp mb hb Hb m1 h1 H1) (S : HR K CA m1 h1 H1) (n : H1 p = none) {u : HO} (s : Sc p (m1.add p) h1 (upd H1 p u) m2 h2 H2) (S2 : HR K CA m2 h2 H2) (e : H2 p = some (.dK acc)) (en : acc.map (·.1) = ds.map (·.1)) (r : RpAll K CA m2 h2 H2 (acc.map (·.2)) (ds.map (·.2))) {un : Unl}
    (uo : UnlOk K CA X.H_0 mb hb Hb m1 h1 H1 un) (t : PostE K CA W mb hb Hb σ Q1 ((mkD nm ds h2).unl un)) : UnlP X (Q1 (.ref p)) H2 := by
  have z2 : m2.z = p :: m1.z := s.z
  cases nm with
  | true =>
    obtain ⟨s3, S3⟩ := done_named (o := .dct ds) S n s S2 (.dct e en (r.named S2 z2))
    refine unl_at sb uo s3 S3 fun H3 s4 S4 k => t _ _ H3 s4 S4 (k _ _ ?_)
    have := Rp.ref (K := K) (CA := CA) (m := mpNew ⟨m2.f, m1.z⟩ h2 p) (h := h2.new (.dct ds)) (H := H2) (k := h2.nx) (Nat.lt_succ_self _)
    rw [show (mpNew ⟨m2.f, m1.z⟩ h2 p) h2.nx = p from mpNew_nx] at this
    exact this
  | false => exact unl_at sb uo (stp_done S n s) (S2.done z2) fun H3 s4 S4 k => t _ _ H3 s4 S4 (k _ _ (.dct (done_data S n s S2) e rfl en (r.done z2)))
end
/-- a comprehension's walk: PostI from an expression's wish -/
theorem PostI.bindE {α β : Type} {RR : Mp → CH → Hp → β → α → Prop} {m : Mp} {h : CH} {H : Hp} {σ : L2.St} {H0 : Hp} {r : R (List D × Unl)} {k : List D × Unl → CH → R α} {Q2 : β → Hp → Prop} {R' : It → Hp → Prop} (q : PostG K CA W RR m h H σ Q2 (r.bind k))
    (f : ∀ w h1 m1 J H1, Stp m h H m1 h1 H1 → HR K CA m1 h1 H1 → Wk K CA m1 h1 H1 J w.1 → UnlOk K CA H0 m h H m1 h1 H1 w.2 → PostG K CA W RR m h H σ Q2 (k w h1) → R' J H1) : PostI K CA W H0 m h H σ R' r := by
  cases r with
  | ok w h1 => exact fun m1 J H1 s S1 wk uo => f w h1 m1 J H1 s S1 wk uo q
  | ex c fs h1 => exact q
  | no => exact q
abbrev tLcU (X : Cx) (wH : TI) (gH : TG) (hT : TT) (he : TE) (vs : List Nat) : TE := fun σ H Q => tLc wH gH hT he vs σ H fun v => UnlP X (Q v)
theorem sim_lc {nm : Bool} {gH : TG} {tg : TGD} {hT : TT} {tt : TB} {te : TD} {he : TE} {wH : TI} {ti : TDw} {vs sl : List Nat} (hi : SimI K CA W X.H_0 wH ti) (hg : SimG K CA sl gH tg) (ht : SimT K CA W0 hT tt) (hel : SimE K CA W0 he te) (ho : ∀ j, j ∈ sl → j ∈ vs) : SimE K CA W (tLcU X wH gH hT he vs) (dLc nm ti tg tt te vs) := by
  intro m h H σ ρ Q' S t
  refine hi m h H σ ρ _ S (PostI.bindE t fun w h1 m1 J H1 s1 S1 wk uo t1 => ?_)
  obtain ⟨hsz, t1⟩ := post_ite t1
  intro D0 n
  have S2 := S1.add (u := .lst []) n
  have SO2 : SO K CA (m1.add D0) h1 (upd H1 D0 (.lst [])) σ ρ := ⟨S2, S.len, fun i d e => let ⟨v, e1, q⟩ := (S.move s1 S1).sl i d e; ⟨v, e1, q.add n⟩⟩
  refine ⟨fun i k H' => k + i = w.1.length ∧ ∃ acc dacc m' h', Sc D0 (m1.add D0) h1 (upd H1 D0 (.lst [])) m' h' H' ∧ SO K CA m' h' H' σ ρ ∧ H' D0 = some (.lst acc) ∧ dacc.length ≤ i ∧ RpAll K CA m' h' H' acc dacc ∧ PostE K CA W m h H σ Q' (((dLcL tg tt te (wipeD ρ vs) (w.1.drop i) h').bind fun ys h => mkL nm (dacc ++ ys) h).unl w.2),
    ⟨w.1.length, rfl, [], [], m1.add D0, h1, Stp.sc .refl, SO2, upd_same, Nat.le_refl _, .nil, t1⟩, ?_⟩
  rintro i k H' ⟨hk, acc, dacc, m', h', st', S', eD, hl, ra, q'⟩
  have sz0 := sz_add (u := .lst []) S1 n
  cases hd : w.1[i]? with
  | none =>
    have hlen : w.1.length ≤ i := List.getElem?_eq_none_iff.mp hd
    obtain rfl : i = w.1.length := by omega
    rw [List.drop_length] at q'
    refine .inl ⟨wk.stop m' h' H' (sz0.trans st'.toSz) S'.hr, doneL (W := W) (σ := σ) (nm := nm) s1 S1 n st' S'.hr eD ra uo ?_⟩
    have q2 : PostE K CA W m h H σ Q' ((mkL nm (dacc ++ []) h').unl w.2) := q'
    rw [List.append_nil] at q2
    exact q2
  | some d =>
    obtain ⟨hlt, ed⟩ := List.getElem?_eq_some_iff.mp hd
    rw [List.drop_eq_getElem_cons hlt, ed] at q'
    obtain ⟨go, yl⟩ := wk.go i m' h' H' d (sz0.trans st'.toSz) S'.hr hd
    refine .inr ⟨go, fun H3 => ∃ acc dacc m' h', Sc D0 (m1.add D0) h1 (upd H1 D0 (.lst [])) m' h' H3 ∧ SO K CA m' h' H3 σ ρ ∧ H3 D0 = some (.lst acc) ∧ dacc.length ≤ i + 1 ∧ RpAll K CA m' h' H3 acc dacc ∧ PostE K CA W m h H σ Q' (((dLcL tg tt te (wipeD ρ vs) (w.1.drop (i + 1)) h').bind fun ys h => mkL nm (dacc ++ ys) h).unl w.2),
      fun H3 n3 => ⟨k - 1, by omega, by omega, n3⟩, fun x H2 y2 => ?_⟩
    obtain ⟨gr, r2⟩ := yl x H2 y2
    have a2 := stp_grow S'.hr gr
    have S3 := S'.move a2 (S'.hr.grow gr)
    have st3 := st'.trans (a2.sc (p := D0))
    have eD3 := gr _ _ eD
    have ra3 := ra.move a2
    have pz : D0 ∈ m'.z := by rw [st'.z]; exact List.mem_cons_self ..
    have wip : wipe (wipe σ vs) vs = wipe σ vs := wipe_eq (wipe_length _ _) fun j hj => wipe_at hj
    refine hg m' h' H2 (wipe σ vs) (wipeD ρ vs) x d _ (S3.wiped vs) r2 ?_
    unfold dLcL at q'
    cases eg : tg d (wipeD ρ vs) h' with
    | ex c fs h4 => rw [eg] at q'; exact q'.elim
    | no => rw [eg] at q'; exact q'.elim
    | ok ρ2 h4 =>
      rw [eg] at q'
      intro m4 σ4 H4 s4 S4 hl4 hn4
      refine ⟨(wipe_eq hl4 fun j hj => hn4 j fun z => hj (ho j z)).trans wip, ht m4 h4 H4 σ4 ρ2 _ S4 ?_⟩
      have eD4 := (s4.zk D0 pz).trans eD3
      have ra4 := ra3.move s4
      have S4' := S3.move s4 S4.hr
      have pz4 : D0 ∈ m4.z := by rw [s4.z]; exact pz
      replace q' : PostE K CA W m h H σ Q' ((((tt ρ2 h4).calm fun b h => if b = true then (te ρ2 h).calm fun y h => (dLcL tg tt te (wipeD ρ vs) (w.1.drop (i + 1)) h).bind fun ys h => .ok (y :: ys) h else dLcL tg tt te (wipeD ρ vs) (w.1.drop (i + 1)) h).bind fun ys h => mkL nm (dacc ++ ys) h).unl w.2) := q'
      cases et : tt ρ2 h4 with
      | ex c fs h5 => rw [et] at q'; exact q'.elim
      | no => rw [et] at q'; exact q'.elim
      | ok b h5 =>
        rw [et] at q'
        intro m5 b' H5 s5 S5 eb
        cases (show b' = b from eb)
        have eD5 := (s5.zk D0 pz4).trans eD4
        have ra5 := ra4.move s5
        have S5' := S4'.move s5 S5
        have pz5 : D0 ∈ m5.z := by rw [s5.z]; exact pz4
        have st5 := (st3.trans (s4.sc (p := D0))).trans (s5.sc (p := D0))
        cases b with
        | false => exact ⟨acc, dacc, m5, h5, st5, S5', eD5, Nat.le_succ_of_le hl, ra5, q'⟩
        | true =>
          refine hel m5 h5 H5 σ4 ρ2 _ (S4.move s5 S5) ?_
          replace q' : PostE K CA W m h H σ Q' ((((te ρ2 h5).calm fun y h => (dLcL tg tt te (wipeD ρ vs) (w.1.drop (i + 1)) h).bind fun ys h => .ok (y :: ys) h).bind fun ys h => mkL nm (dacc ++ ys) h).unl w.2) := q'
          cases ee : te ρ2 h5 with
          | ex c fs h6 => rw [ee] at q'; exact q'.elim
          | no => rw [ee] at q'; exact q'.elim
          | ok y h6 =>
            rw [ee] at q'
            intro m6 v6 H6 s6 S6 r6
            have eD6 := (s6.zk D0 pz5).trans eD5
            have pz6 : D0 ∈ m6.z := by rw [s6.z]; exact pz5
            have ra6 := (ra5.move s6).append (.cons r6 .nil)
            have S6' := S5'.move s6 S6
            have sm := sc_made (u := .lst (acc ++ [v6])) S6 pz6
            refine ⟨acc, eD6, by rw [ra.length]; omega, acc ++ [v6], dacc ++ [y], m6, h6, (st5.trans (s6.sc (p := D0))).trans sm, ⟨S6.made pz6, S6'.len, fun j dj ej => ?_⟩, upd_same, by simp; exact hl, ra6.mv sm.toMv, ?_⟩
            · obtain ⟨vj, e1, q⟩ := S6'.sl j dj ej
              exact ⟨vj, e1, q.mv sm.toMv⟩
            · have e3 : ∀ r : R (List D), (r.bind fun ys h => R.ok (y :: ys) h).bind (fun ys h => mkL nm (dacc ++ ys) h) = r.bind fun ys h => mkL nm ((dacc ++ [y]) ++ ys) h := fun r => by
                cases r with
                | ok ys h7 => show mkL nm (dacc ++ (y :: ys)) h7 = mkL nm ((dacc ++ [y]) ++ ys) h7; rw [List.append_assoc]; rfl
                | ex c fs h7 => rfl
                | no => rfl
              rw [← e3]
              exact q'
/-! ### dict comprehensions -/
def dDcL (tg : TGD) (tt : TB) (tk tv : TD) (ρ0 : DE) : List (Key × D) → List D → CH → R (List (Key × D))
  | acc, [], h => .ok acc h
  | acc, d :: r, h => (tg d ρ0 h).calm fun ρ2 h => (tt ρ2 h).calm fun b h => if b = true then (tk ρ2 h).calm fun y h => (tv ρ2 h).calm fun z h => match keyD y with
      | some k => if acc.length < sizeLine then dDcL tg tt tk tv ρ0 (dPut acc k z) r h else .no
      | none => .no
    else dDcL tg tt tk tv ρ0 acc r h
def dDc (nm : Bool) (ti : TDw) (tg : TGD) (tt : TB) (tk tv : TD) (vs : List Nat) : TD := fun ρ h => (ti ρ h).bind fun w h => ((dDcL tg tt tk tv (wipeD ρ vs) [] w.1 h).bind fun ys h => mkD nm ys h).unl w.2
abbrev tDcU (X : Cx) (wH : TI) (gH : TG) (hT : TT) (hk hv : TE) (vs : List Nat) : TE := fun σ H Q => tDc wH gH hT hk hv vs σ H fun v => UnlP X (Q v)
theorem sim_dc {nm : Bool} {gH : TG} {tg : TGD} {hT : TT} {tt : TB} {tk tv : TD} {hk hv : TE} {wH : TI} {ti : TDw} {vs sl : List Nat} (hi : SimI K CA W X.H_0 wH ti) (hg : SimG K CA sl gH tg) (ht : SimT K CA W0 hT tt) (hek : SimE K CA W0 hk tk) (hev : SimE K CA W0 hv tv) (ho : ∀ j, j ∈ sl → j ∈ vs) : SimE K CA W (tDcU X wH gH hT hk hv vs) (dDc nm ti tg tt tk tv vs) := by
  intro m h H σ ρ Q' S t
  refine hi m h H σ ρ _ S (PostI.bindE t fun w h1 m1 J H1 s1 S1 wk uo t1 => ?_)
  intro D0 n
  have S2 := S1.add (u := .dK []) n
  have SO2 : SO K CA (m1.add D0) h1 (upd H1 D0 (.dK [])) σ ρ := ⟨S2, S.len, fun i d e => let ⟨v, e1, q⟩ := (S.move s1 S1).sl i d e; ⟨v, e1, q.add n⟩⟩
  refine ⟨fun i k H' => k + i = w.1.length ∧ ∃ acc dacc m' h', Sc D0 (m1.add D0) h1 (upd H1 D0 (.dK [])) m' h' H' ∧ SO K CA m' h' H' σ ρ ∧ H' D0 = some (.dK acc) ∧ acc.map (·.1) = dacc.map (·.1) ∧ RpAll K CA m' h' H' (acc.map (·.2)) (dacc.map (·.2)) ∧ PostE K CA W m h H σ Q' (((dDcL tg tt tk tv (wipeD ρ vs) dacc (w.1.drop i) h').bind fun ys h => mkD nm ys h).unl w.2),
    ⟨w.1.length, rfl, [], [], m1.add D0, h1, Stp.sc .refl, SO2, upd_same, rfl, .nil, t1⟩, ?_⟩
  rintro i k H' ⟨hkl, acc, dacc, m', h', st', S', eD, en, ra, q'⟩
  have sz0 := sz_add (u := .dK []) S1 n
  cases hd : w.1[i]? with
  | none =>
    have hlen : w.1.length ≤ i := List.getElem?_eq_none_iff.mp hd
    obtain rfl : i = w.1.length := by omega
    rw [List.drop_length] at q'
    exact .inl ⟨wk.stop m' h' H' (sz0.trans st'.toSz) S'.hr, doneD (W := W) (σ := σ) (nm := nm) s1 S1 n st' S'.hr eD en ra uo q'⟩
  | some d =>
    obtain ⟨hlt, ed⟩ := List.getElem?_eq_some_iff.mp hd
    rw [List.drop_eq_getElem_cons hlt, ed] at q'
    obtain ⟨go, yl⟩ := wk.go i m' h' H' d (sz0.trans st'.toSz) S'.hr hd
    refine .inr ⟨go, fun H3 => ∃ acc dacc m' h', Sc D0 (m1.add D0) h1 (upd H1 D0 (.dK [])) m' h' H3 ∧ SO K CA m' h' H3 σ ρ ∧ H3 D0 = some (.dK acc) ∧ acc.map (·.1) = dacc.map (·.1) ∧ RpAll K CA m' h' H3 (acc.map (·.2)) (dacc.map (·.2)) ∧ PostE K CA W m h H σ Q' (((dDcL tg tt tk tv (wipeD ρ vs) dacc (w.1.drop (i + 1)) h').bind fun ys h => mkD nm ys h).unl w.2),
      fun H3 n3 => ⟨k - 1, by omega, by omega, n3⟩, fun x H2 y2 => ?_⟩
    obtain ⟨gr, r2⟩ := yl x H2 y2
    have a2 := stp_grow S'.hr gr
    have S3 := S'.move a2 (S'.hr.grow gr)
    have st3 := st'.trans (a2.sc (p := D0))
    have eD3 := gr _ _ eD
    have ra3 := ra.move a2
    have pz : D0 ∈ m'.z := by rw [st'.z]; exact List.mem_cons_self ..
    have wip : wipe (wipe σ vs) vs = wipe σ vs := wipe_eq (wipe_length _ _) fun j hj => wipe_at hj
    refine hg m' h' H2 (wipe σ vs) (wipeD ρ vs) x d _ (S3.wiped vs) r2 ?_
    unfold dDcL at q'
    cases eg : tg d (wipeD ρ vs) h' with
    | ex c fs h4 => rw [eg] at q'; exact q'.elim
    | no => rw [eg] at q'; exact q'.elim
    | ok ρ2 h4 =>
      rw [eg] at q'
      intro m4 σ4 H4 s4 S4 hl4 hn4
      refine ⟨(wipe_eq hl4 fun j hj => hn4 j fun z => hj (ho j z)).trans wip, ht m4 h4 H4 σ4 ρ2 _ S4 ?_⟩
      have eD4 := (s4.zk D0 pz).trans eD3
      have ra4 := ra3.move s4
      have S4' := S3.move s4 S4.hr
      have pz4 : D0 ∈ m4.z := by rw [s4.z]; exact pz
      replace q' : PostE K CA W m h H σ Q' ((((tt ρ2 h4).calm fun b h => if b = true then (tk ρ2 h).calm fun y h => (tv ρ2 h).calm fun z h => match keyD y with
          | some k => if dacc.length < sizeLine then dDcL tg tt tk tv (wipeD ρ vs) (dPut dacc k z) (w.1.drop (i + 1)) h else .no
          | none => .no
        else dDcL tg tt tk tv (wipeD ρ vs) dacc (w.1.drop (i + 1)) h).bind fun ys h => mkD nm ys h).unl w.2) := q'
      cases et : tt ρ2 h4 with
      | ex c fs h5 => rw [et] at q'; exact q'.elim
      | no => rw [et] at q'; exact q'.elim
      | ok b h5 =>
        rw [et] at q'
        intro m5 b' H5 s5 S5 eb
        cases (show b' = b from eb)
        have eD5 := (s5.zk D0 pz4).trans eD4
        have ra5 := ra4.move s5
        have S5' := S4'.move s5 S5
        have pz5 : D0 ∈ m5.z := by rw [s5.z]; exact pz4
        have st5 := (st3.trans (s4.sc (p := D0))).trans (s5.sc (p := D0))
        cases b with
        | false => exact ⟨acc, dacc, m5, h5, st5, S5', eD5, en, ra5, q'⟩
        | true =>
          refine hek m5 h5 H5 σ4 ρ2 _ (S4.move s5 S5) ?_
          replace q' : PostE K CA W m h H σ Q' ((((tk ρ2 h5).calm fun y h => (tv ρ2 h).calm fun z h => match keyD y with
              | some k => if dacc.length < sizeLine then dDcL tg tt tk tv (wipeD ρ vs) (dPut dacc k z) (w.1.drop (i + 1)) h else .no
              | none => .no).bind fun ys h => mkD nm ys h).unl w.2) := q'
          cases ee : tk ρ2 h5 with
          | ex c fs h6 => rw [ee] at q'; exact q'.elim
          | no => rw [ee] at q'; exact q'.elim
          | ok y h6 =>
            rw [ee] at q'
            intro m6 v6 H6 s6 S6 r6
            refine hev m6 h6 H6 σ4 ρ2 _ ((S4.move s5 S5).move s6 S6) ?_
            replace q' : PostE K CA W m h H σ Q' ((((tv ρ2 h6).calm fun z h => match keyD y with
                | some k => if dacc.length < sizeLine then dDcL tg tt tk tv (wipeD ρ vs) (dPut dacc k z) (w.1.drop (i + 1)) h else .no
                | none => .no).bind fun ys h => mkD nm ys h).unl w.2) := q'
            cases ef : tv ρ2 h6 with
            | ex c fs h7 => rw [ef] at q'; exact q'.elim
            | no => rw [ef] at q'; exact q'.elim
            | ok z h7 =>
              rw [ef] at q'
              replace q' : PostE K CA W m h H σ Q' (((match keyD y with
                | some k => if dacc.length < sizeLine then dDcL tg tt tk tv (wipeD ρ vs) (dPut dacc k z) (w.1.drop (i + 1)) h7 else .no
                | none => .no).bind fun ys h => mkD nm ys h).unl w.2) := q'
              intro m7 v7 H7 s7 S7 r7
              cases ek : keyD y with
              | none => rw [ek] at q'; exact q'.elim
              | some k =>
                rw [ek] at q'
                by_cases hz : dacc.length < sizeLine
                · replace q' : PostE K CA W m h H σ Q' (((if dacc.length < sizeLine then dDcL tg tt tk tv (wipeD ρ vs) (dPut dacc k z) (w.1.drop (i + 1)) h7 else .no).bind fun ys h => mkD nm ys h).unl w.2) := q'
                  rw [if_pos hz] at q'
                  have eD7 := (s7.zk D0 (by rw [s6.z]; exact pz5)).trans ((s6.zk D0 pz5).trans eD5)
                  have pz7 : D0 ∈ m7.z := by rw [s7.z, s6.z]; exact pz5
                  have ey := rp_key r6 ek
                  obtain ⟨en', rr⟩ := rp_dput (k := k) en ((ra5.move s6).move s7) r7
                  have S7' := (S5'.move s6 S6).move s7 S7
                  have sm := sc_made (u := .dK (putK acc k v7)) S7 pz7
                  refine ⟨acc, k, ey, eD7, by rw [len_of en]; exact hz, putK acc k v7, dPut dacc k z, m7, h7, (st5.trans ((s6.trans s7).sc (p := D0))).trans sm, ⟨S7.made pz7, S7'.len, fun j dj ej => ?_⟩, upd_same, en', rr.mv sm.toMv, q'⟩
                  obtain ⟨vj, e1, q⟩ := S7'.sl j dj ej
                  exact ⟨vj, e1, q.mv sm.toMv⟩
                · replace q' : PostE K CA W m h H σ Q' (((if dacc.length < sizeLine then dDcL tg tt tk tv (wipeD ρ vs) (dPut dacc k z) (w.1.drop (i + 1)) h7 else .no).bind fun ys h => mkD nm ys h).unl w.2) := q'
                  rw [if_neg hz] at q'
                  exact q'.elim
/-! ### comprehensions as expressions -/
structure WTs (X : Cx) (K : PySem.W.Frag) (CA : Nat → Addr) (W : WX) (ifs : List Expr) (tH : TT) (t : TB) : Prop where
  pe : PTs X ifs tH
  sim : SimT K CA W tH t
theorem wts_nil : WTs X K CA W [] L2.tYes dYes := ⟨pts_nil, fun m h H σ ρ Q' S t => t.here S.hr rfl⟩
theorem wts_one {c : Expr} {hB : TT} {tB : TB} (h : WT X K CA W c hB tB) : WTs X K CA W [c] hB tB := ⟨pts_one h.pe, h.sim⟩
section
variable {elt kx vx : Expr} {ifs : List Expr} {pos : Pos} {gH : TG} {tg : TGD} {hT : TT} {tt : TB} {he hk hv : TE} {te tk tv : TD} {wH : TI} {ti : TDw} {st : Stmt}
theorem we_lc (nm : Bool) {scope : Scope} {own : List (Str × Nat)} {sl : List Nat} (hc : X.calm = true) (hN : X.N.Nodup) (hi : WI X K CA W tge iter wH ti) (ok : BlkOk X.N X.env.scope scope own)
    (hg : ∀ (s : Shared) (H : Hp) (C : Addr) (cl : List (Str × Addr)) (fp : List Addr), WG (X.blk s H scope (compEnvC scope cl C X.env) fp) K CA tge sl gH tg)
    (ht : ∀ (s : Shared) (H : Hp) (C : Addr) (cl : List (Str × Addr)) (fp : List Addr), WTs (X.blk s H scope (compEnvC scope cl C X.env) fp) K CA W0 ifs hT tt)
    (hel : ∀ (s : Shared) (H : Hp) (C : Addr) (cl : List (Str × Addr)) (fp : List Addr), WE (X.blk s H scope (compEnvC scope cl C X.env) fp) K CA W0 elt he te)
    (ho : ∀ j, j ∈ sl → j ∈ own.map (·.2)) (hs : ∀ x, foldedSetIterable iter X.env x = pure x := by intro _; rfl) : WE X K CA W (.ListComp elt [⟨tge, iter, ifs, 0⟩] scope pos) (tLcU X wH gH hT he (own.map (·.2))) (dLc nm ti tg tt te (own.map (·.2))) :=
  ⟨pe_unl (pe_lc hc hN hi.pe ok (fun s H C cl fp => (hg s H C cl fp).pe) (fun s H C cl fp => (ht s H C cl fp).pe) (fun s H C cl fp => (hel s H C cl fp).pe) hs), sim_lc hi.sim (hg X.s_0 X.H_0 0 [] []).sim (ht X.s_0 X.H_0 0 [] []).sim (hel X.s_0 X.H_0 0 [] []).sim ho⟩
/-- name = [..] -/
theorem ws_setLc (nm : Bool) {i : Nat} {y : Str} {py spos : Pos} {scope : Scope} {own : List (Str × Nat)} {sl : List Nat} (hc : X.calm = true) (hN : X.N.Nodup) (hy : X.N[i]? = some y) (hyl : X.env.scope.names.lookup y = some .local)
    (hi : WI X K CA W tge iter wH ti) (ok : BlkOk X.N X.env.scope scope own)
    (hg : ∀ (s : Shared) (H : Hp) (C : Addr) (cl : List (Str × Addr)) (fp : List Addr), WG (X.blk s H scope (compEnvC scope cl C X.env) fp) K CA tge sl gH tg)
    (ht : ∀ (s : Shared) (H : Hp) (C : Addr) (cl : List (Str × Addr)) (fp : List Addr), WTs (X.blk s H scope (compEnvC scope cl C X.env) fp) K CA W0 ifs hT tt)
    (hel : ∀ (s : Shared) (H : Hp) (C : Addr) (cl : List (Str × Addr)) (fp : List Addr), WE (X.blk s H scope (compEnvC scope cl C X.env) fp) K CA W0 elt he te)
    (ho : ∀ j, j ∈ sl → j ∈ own.map (·.2)) (hsw : swapsWith (.ListComp elt [⟨tge, iter, ifs, 0⟩] scope pos) (some (.Name y py)) spos.line X.env = pure true := by rfl) (hs : ∀ x, foldedSetIterable iter X.env x = pure x := by intro _; rfl) :
    WS X K CA W (.Assign [.Name y py] (.ListComp elt [⟨tge, iter, ifs, 0⟩] scope pos) spos) (fun D σ H => tAsg (tLc wH gH hT he (own.map (·.2))) (gName i) (unlE X D) σ H) (dAsg (dLc nm ti tg tt te (own.map (·.2))) (gdName i)) :=
  ⟨ps_unl (ps_setLc hc hN hy hyl hsw hi.pe ok (fun s H C cl fp => (hg s H C cl fp).pe) (fun s H C cl fp => (ht s H C cl fp).pe) (fun s H C cl fp => (hel s H C cl fp).pe) hs),
    sim_asg (sim_lc hi.sim (hg X.s_0 X.H_0 0 [] []).sim (ht X.s_0 X.H_0 0 [] []).sim (hel X.s_0 X.H_0 0 [] []).sim ho) sim_gName⟩
theorem we_dc (nm : Bool) {scope : Scope} {own : List (Str × Nat)} {sl : List Nat} (hc : X.calm = true) (hN : X.N.Nodup) (hi : WI X K CA W tge iter wH ti) (ok : BlkOk X.N X.env.scope scope own)
    (hg : ∀ (s : Shared) (H : Hp) (C : Addr) (cl : List (Str × Addr)) (fp : List Addr), WG (X.blk s H scope (compEnvC scope cl C X.env) fp) K CA tge sl gH tg)
    (ht : ∀ (s : Shared) (H : Hp) (C : Addr) (cl : List (Str × Addr)) (fp : List Addr), WTs (X.blk s H scope (compEnvC scope cl C X.env) fp) K CA W0 ifs hT tt)
    (hek : ∀ (s : Shared) (H : Hp) (C : Addr) (cl : List (Str × Addr)) (fp : List Addr), WE (X.blk s H scope (compEnvC scope cl C X.env) fp) K CA W0 kx hk tk)
    (hev : ∀ (s : Shared) (H : Hp) (C : Addr) (cl : List (Str × Addr)) (fp : List Addr), WE (X.blk s H scope (compEnvC scope cl C X.env) fp) K CA W0 vx hv tv)
    (ho : ∀ j, j ∈ sl → j ∈ own.map (·.2)) (hs : ∀ x, foldedSetIterable iter X.env x = pure x := by intro _; rfl) : WE X K CA W (.DictComp kx vx [⟨tge, iter, ifs, 0⟩] scope pos) (tDcU X wH gH hT hk hv (own.map (·.2))) (dDc nm ti tg tt tk tv (own.map (·.2))) :=
  ⟨pe_unl (pe_dc hc hN hi.pe ok (fun s H C cl fp => (hg s H C cl fp).pe) (fun s H C cl fp => (ht s H C cl fp).pe) (fun s H C cl fp => (hek s H C cl fp).pe) (fun s H C cl fp => (hev s H C cl fp).pe) hs), sim_dc hi.sim (hg X.s_0 X.H_0 0 [] []).sim (ht X.s_0 X.H_0 0 [] []).sim (hek X.s_0 X.H_0 0 [] []).sim (hev X.s_0 X.H_0 0 [] []).sim ho⟩
end
end
end CM
namespace CM
open PySem PySem.Spec PyProof.Rows L2

section
variable {K : PySem.W.Frag} {CA : Nat → Addr} {W : WX} {m : Mp} {h : CH} {H : Hp} {σ : L2.St} {Q' : VK} {k : Nat} {o o' : MO} {u : HO} {d : D} {v : V}
theorem PostG.put (t : PostE K CA W m h H σ Q' (.ok d (h.put k o'))) (S : HR K CA m h H) (e : h.ob k = some o) (nl : NotLck o) (x : MOk K CA m (h.put k o') (upd H (m k) u) (m k) o') (r : Rp K CA m h H v d) : Q' v (upd H (m k) u) :=
  t m v _ (stp_put S e nl) (S.put e x) (r.move (stp_put S e nl))
theorem rp_ref (r : Rp K CA m h H v (.ref k)) : v = .ref (m k) := by cases r; rfl
theorem mo_lst {ds : List D} (S : HR K CA m h H) (e : h.ob k = some (.lst ds)) : ∃ xs, H (m k) = some (.lst xs) ∧ RpAll K CA m h H xs ds := by
  have x := (S.ob k _ e).2
  cases x with
  | lst q r => exact ⟨_, q, r⟩
theorem mo_dct {ds : List (Key × D)} (S : HR K CA m h H) (e : h.ob k = some (.dct ds)) : ∃ xs, H (m k) = some (.dK xs) ∧ xs.map (·.1) = ds.map (·.1) ∧ RpAll K CA m h H (xs.map (·.2)) (ds.map (·.2)) := by
  have x := (S.ob k _ e).2
  cases x with
  | dct q en r => exact ⟨_, q, en, r⟩
theorem mo_obj {c : Nat} {ds : List (Str × D)} (S : HR K CA m h H) (e : h.ob k = some (.obj c ds)) : ∃ dx xs, H (m k) = some (.ins (CA c) dx xs) ∧ xs.map (·.1) = ds.map (·.1) ∧ RpAll K CA m h H (xs.map (·.2)) (ds.map (·.2)) := by
  have x := (S.ob k _ e).2
  cases x with
  | obj q en r => exact ⟨_, _, q, en, r⟩
theorem mo_dctT {ds : List (List Key × D)} (S : HR K CA m h H) (e : h.ob k = some (.dctT ds)) : ∃ xs, H (m k) = some (.dT xs) ∧ xs.map (·.1) = ds.map (·.1) ∧ RpAll K CA m h H (xs.map (·.2)) (ds.map (·.2)) := by
  have x := (S.ob k _ e).2
  cases x with
  | dctT q en r => exact ⟨_, q, en, r⟩
end
/-! ### methods of built-in objects -/
abbrev FM := D → List D → CH → R D
def isTy (T : String) (x : D) (h : CH) : Bool := match T with
  | "list" => (lstOf h x).isSome
  | "dict" => match x with
    | .ref k => match h.ob k with
      | some (.dct _) => true
      | _ => false
    | _ => false
  | "str" => match x with
    | .str _ => true
    | _ => false
  | _ => false
def dBM (T : String) (f : FM) (to : TD) (ts : TDs) : TD := fun ρ h => (to ρ h).bind fun x h => if isTy T x h = true then (ts ρ h).bind fun xs h => f x xs h else .no
def dBM0 (T : String) (f : FM) (to : TD) : TD := fun ρ h => (to ρ h).bind fun x h => if isTy T x h = true then f x [] h else .no
def SimM (K : PySem.W.Frag) (CA : Nat → Addr) (r : V → List V → Hp → VK → Prop) (f : FM) : Prop := ∀ (W : WX) (σ : L2.St) (m : Mp) (h : CH) (H : Hp) (x : V) (dx : D) (xs : List V) (ds : List D) (Q' : VK), HR K CA m h H → Rp K CA m h H x dx → RpAll K CA m h H xs ds → PostE K CA W m h H σ Q' (f dx ds h) → r x xs H Q'
section
variable {X : Cx} {K : PySem.W.Frag} {CA : Nat → Addr} {W : WX} {m : Mp} {h : CH} {H : Hp} {e o : Expr} {es : List Expr} {T : String} {r : V → List V → Hp → VK → Prop} {f : FM} {ha : TE} {ta : TD} {hs : TA} {ts : TDs}
theorem isTy_ok {x : V} {d : D} (S : HR K CA m h H) (r : Rp K CA m h H x d) (t : isTy T d h = true) : tyV K T x H := by
  unfold isTy at t
  split at t
  · obtain ⟨ds, e⟩ := Option.isSome_iff_exists.mp t
    obtain ⟨a, xs, rfl, e1, _⟩ := rp_lst S r e
    exact .inl ⟨rfl, xs, .of e1⟩
  · split at t
    · split at t
      · rename_i e
        obtain ⟨xs, q, _⟩ := mo_dct S e
        cases r
        exact .inr (.inr (.inl ⟨rfl, .inl ⟨_, q⟩⟩))
      · cases t
    · cases t
  · split at t
    · cases r; rfl
    · cases t
  · cases t
theorem we_bm (s : SimM K CA r f) (x : WE X K CA W o ha ta) (y : WA X K CA W es hs ts) (hp : PE X o ha → PA X es hs → PE X e (tBM K T r ha hs)) : WE X K CA W e (tBM K T r ha hs) (dBM T f ta ts) :=
  ⟨hp x.pe y.pe, fun m h H σ ρ Q' S t => x.sim m h H σ ρ _ S (t.bind fun d h1 m1 v H1 s1 S1 r1 t1 => by
    obtain ⟨c, t1⟩ := post_ite t1
    exact ⟨isTy_ok S1 r1 c, y.sim m1 h1 H1 σ ρ _ (S.move s1 S1) (t1.bind fun ds h2 m2 vs H2 s2 S2 r2 t2 => s W σ m2 h2 H2 v d vs ds Q' S2 (r1.move s2) r2 t2)⟩)⟩
theorem we_bm0 (s : SimM K CA r f) (x : WE X K CA W o ha ta) (hp : PE X o ha → PE X e (tBM0 K T r ha)) : WE X K CA W e (tBM0 K T r ha) (dBM0 T f ta) :=
  ⟨hp x.pe, fun m h H σ ρ Q' S t => x.sim m h H σ ρ _ S (t.bind fun d h1 m1 v H1 s1 S1 r1 t1 => by
    obtain ⟨c, t1⟩ := post_ite t1
    exact ⟨isTy_ok S1 r1 c, s W σ m1 h1 H1 v d [] [] Q' S1 r1 .nil t1⟩)⟩
end
def fAppend : FM := fun x xs h => match x, xs with
  | .ref k, [y] => match h.ob k with
    | some (.lst ds) => if ds.length < sizeLine then .ok .non (h.put k (.lst (ds ++ [y]))) else .no
    | _ => .no
  | _, _ => .no
def fExtend : FM := fun x xs h => match x, xs with
  | .ref k, [y] => match h.ob k, lstOf h y with
    | some (.lst ds), some es => if ds.length + es.length ≤ sizeLine then .ok .non (h.put k (.lst (ds ++ es))) else .no
    | _, _ => .no
  | _, _ => .no
def fPop : FM := fun x xs h => match x, xs with
  | .ref k, [] => match h.ob k with
    | some (.lst ds) => match ds[ds.length - 1]? with
      | some y => .ok y (h.put k (.lst ds.dropLast))
      | none => .no
    | _ => .no
  | _, _ => .no
def fPopAt : FM := fun x xs h => match x, xs with
  | .ref k, [.int i] => match h.ob k with
    | some (.lst ds) => if -(2 ^ 63) ≤ i ∧ i < 2 ^ 63 then (match seqIndex? i ds.length with
      | some j => (match ds[j]? with
        | some y => .ok y (h.put k (.lst (ds.eraseIdx j)))
        | none => .no)
      | none => .no) else .no
    | _ => .no
  | _, _ => .no
def fClear : FM := fun x xs h => match x, xs with
  | .ref k, [] => match h.ob k with
    | some (.lst _) => .ok .non (h.put k (.lst []))
    | _ => .no
  | _, _ => .no
def fInsert : FM := fun x xs h => match x, xs with
  | .ref k, [.int i, y] => match h.ob k with
    | some (.lst ds) => if ds.length < sizeLine ∧ 0 ≤ i ∧ i < 2 ^ 63 then .ok .non (h.put k (.lst (ds.take i.toNat ++ [y] ++ ds.drop i.toNat))) else .no
    | _ => .no
  | _, _ => .no
section
variable {K : PySem.W.Frag} {CA : Nat → Addr}
theorem sim_append : SimM K CA rAppend fAppend := by
  intro W σ m h H x dx xs ds Q' S rx rs t
  unfold fAppend at t
  split at t
  · split at t
    · rename_i e
      obtain ⟨l, t⟩ := post_ite t
      obtain ⟨ys, q, r⟩ := mo_lst S e
      cases rs with
      | @cons v _ _ _ r1 r2 =>
        cases r2
        exact ⟨_, ys, v, rp_ref rx, rfl, q, by rw [r.length]; exact l, t.put S e trivial (.lst upd_same ((r.append (.cons r1 .nil)).mv (mv_put e))) .non⟩
    · exact t.elim
  · exact t.elim
theorem sim_extend : SimM K CA rExtend fExtend := by
  intro W σ m h H x dx xs ds Q' S rx rs t
  unfold fExtend at t
  split at t
  · split at t
    · rename_i e e2
      obtain ⟨l, t⟩ := post_ite t
      obtain ⟨ys, q, r⟩ := mo_lst S e
      cases rs with
      | cons r1 r2 =>
        cases r2
        obtain ⟨b, zs, rfl, q2, rz⟩ := rp_lst S r1 e2
        exact ⟨_, b, ys, zs, rp_ref rx, rfl, q, q2, by rw [r.length, rz.length]; exact l, t.put S e trivial (.lst upd_same ((r.append rz).mv (mv_put e))) .non⟩
    · exact t.elim
  · exact t.elim
theorem rps_dropLast {m : Mp} {h : CH} {H : Hp} {vs : List V} {ds : List D} (r : RpAll K CA m h H vs ds) : RpAll K CA m h H vs.dropLast ds.dropLast := by
  rw [List.dropLast_eq_take, List.dropLast_eq_take, r.length]
  exact r.take _
theorem sim_pop : SimM K CA rPop fPop := by
  intro W σ m h H x dx xs ds Q' S rx rs t
  unfold fPop at t
  split at t
  · split at t
    · rename_i e
      obtain ⟨ys, q, r⟩ := mo_lst S e
      cases rs
      split at t
      · rename_i ey
        obtain ⟨v, ev, rv⟩ := r.getD ey
        exact ⟨_, ys, v, rp_ref rx, rfl, q, by rw [r.length]; exact ev, t.put S e trivial (.lst upd_same ((rps_dropLast r).mv (mv_put e))) rv⟩
      · exact t.elim
    · exact t.elim
  · exact t.elim
theorem sim_popAt : SimM K CA rPopAt fPopAt := by
  intro W σ m h H x dx xs ds Q' S rx rs t
  unfold fPopAt at t
  split at t
  · split at t
    · rename_i e
      obtain ⟨⟨l1, l2⟩, t⟩ := post_ite t
      obtain ⟨ys, q, r⟩ := mo_lst S e
      cases rs with
      | cons r1 r2 =>
        cases r2
        cases r1
        split at t
        · rename_i j ej
          split at t
          · rename_i ey
            obtain ⟨v, ev, rv⟩ := r.getD ey
            exact ⟨_, ys, _, j, v, rp_ref rx, rfl, q, l1, l2, by rw [r.length]; exact ej, ev, t.put S e trivial (.lst upd_same ((r.eraseIdx _).mv (mv_put e))) rv⟩
          · exact t.elim
        · exact t.elim
    · exact t.elim
  · exact t.elim
theorem sim_clear : SimM K CA rClear fClear := by
  intro W σ m h H x dx xs ds Q' S rx rs t
  unfold fClear at t
  split at t
  · split at t
    · rename_i e
      obtain ⟨ys, q, r⟩ := mo_lst S e
      cases rs
      exact ⟨_, ys, rp_ref rx, rfl, q, t.put S e trivial (.lst upd_same .nil) .non⟩
    · exact t.elim
  · exact t.elim
abbrev rInsert : V → List V → Hp → VK → Prop := fun x vs H Q => ∃ (l : Addr) (xs : List V) (i : Int) (y : V), x = .ref l ∧ vs = [.int i, y] ∧ H l = some (.lst xs) ∧ xs.length < sizeLine ∧ 0 ≤ i ∧ i < 2 ^ 63 ∧
    Q .non (upd H l (.lst (xs.take i.toNat ++ [y] ++ xs.drop i.toNat)))
theorem sim_insert : SimM K CA rInsert fInsert := by
  intro W σ m h H x dx xs ds Q' S rx rs t
  unfold fInsert at t
  split at t
  · split at t
    · rename_i e
      obtain ⟨⟨l1, l2, l3⟩, t⟩ := post_ite t
      obtain ⟨ys, q, r⟩ := mo_lst S e
      cases rs with
      | cons r1 r2 =>
        cases r2 with
        | @cons v _ _ _ r2 r3 =>
          cases r1
          cases r3
          exact ⟨_, ys, _, v, rp_ref rx, rfl, q, by rw [r.length]; exact l1, l2, l3, t.put S e trivial (.lst upd_same ((((r.take _).append (.cons r2 .nil)).append (r.drop _)).mv (mv_put e))) .non⟩
    · exact t.elim
  · exact t.elim
end
/-! ### dicts: get, pop, del -/
def dropD (kvs : List (Key × D)) (k : Key) : List (Key × D) := kvs.filter fun kv => decide (kv.1 ≠ k)
def dGet1 (td tk : TD) : TD := fun ρ h => (td ρ h).bind fun x h => if (dctOf h x).isSome = true then (tk ρ h).bind fun y h => match dctOf h x, keyD y with
  | some kvs, some k => .ok ((dGet kvs k).getD .non) h
  | _, _ => .no
  else .no
def dGet2 (td tk tx : TD) : TD := fun ρ h => (td ρ h).bind fun x h => if (dctOf h x).isSome = true then (tk ρ h).bind fun y h => (tx ρ h).bind fun z h => match dctOf h x, keyD y with
  | some kvs, some k => .ok ((dGet kvs k).getD z) h
  | _, _ => .no
  else .no
def refOf : D → Option Nat
  | .ref r => some r
  | _ => none
theorem refOf_eq {d : D} {r : Nat} (e : refOf d = some r) : d = .ref r := by cases d <;> first | (cases e; rfl) | cases e
def dPop1 (td tk : TD) : TD := fun ρ h => (td ρ h).bind fun x h => if (dctOf h x).isSome = true then (tk ρ h).bind fun y h => match refOf x, keyD y with
  | some r, some k => match h.ob r with
    | some (.dct kvs) => match dGet kvs k with
      | some d => .ok d (h.put r (.dct (dropD kvs k)))
      | none => .no
    | _ => .no
  | _, _ => .no
  else .no
def dDel (td tk : TD) : SD := fun ρ h => (td ρ h).toS ρ fun x h => (tk ρ h).toS ρ fun y h => match refOf x, keyD y with
  | some r, some k => match h.ob r with
    | some (.dct kvs) => if (dGet kvs k).isSome = true then .nx ρ (h.put r (.dct (dropD kvs k))) else .no
    | _ => .no
  | _, _ => .no
section
variable {X : Cx} {K : PySem.W.Frag} {CA : Nat → Addr} {W : WX} {m : Mp} {h : CH} {H : Hp} {e o : Expr} {ha hk hx : TE} {ta tk tx : TD} {st : Stmt} {a b : Expr}
theorem rp_drop {k : Key} : ∀ {kvs : List (Key × V)} {ds : List (Key × D)}, kvs.map (·.1) = ds.map (·.1) → RpAll K CA m h H (kvs.map (·.2)) (ds.map (·.2)) → (dropK kvs k).map (·.1) = (dropD ds k).map (·.1) ∧ RpAll K CA m h H ((dropK kvs k).map (·.2)) ((dropD ds k).map (·.2))
  | [], [], _, _ => ⟨rfl, .nil⟩
  | [], _ :: _, e, _ => by simp at e
  | _ :: _, [], e, _ => by simp at e
  | p :: kvs, q :: ds, e, r => by
    simp only [List.map_cons, List.cons.injEq] at e
    cases r with
    | cons r1 r2 =>
      obtain ⟨i1, i2⟩ := rp_drop (k := k) e.2 r2
      unfold dropK dropD
      rw [List.filter_cons, List.filter_cons, e.1]
      by_cases c : q.1 = k
      · simp only [c, ne_eq, not_true, decide_false, Bool.false_eq_true, if_false]
        exact ⟨i1, i2⟩
      · simp only [c, ne_eq, not_false_iff, decide_true, if_true, List.map_cons]
        exact ⟨by rw [e.1]; exact congrArg _ i1, .cons r1 i2⟩
theorem isD_of {x : V} {d : D} (S : HR K CA m h H) (r : Rp K CA m h H x d) (c : (dctOf h d).isSome = true) : ∃ a, x = .ref a ∧ IsD H a := by
  obtain ⟨kvs, e⟩ := Option.isSome_iff_exists.mp c
  obtain ⟨a, o, hk, rfl, e1, c, en, r⟩ := rp_dct S r e
  refine ⟨a, rfl, .inl ⟨hk, ?_⟩⟩
  rcases core_dK c with rfl | ⟨ob, rfl⟩
  · exact .inl e1
  · exact .inr ⟨ob, e1⟩
theorem get_rel {x y : V} {d e : D} {kvs : List (Key × D)} {k : Key} (S : HR K CA m h H) (rx : Rp K CA m h H x d) (ry : Rp K CA m h H y e) (ed : dctOf h d = some kvs) (ek : keyD e = some k) : ∃ a o, x = .ref a ∧ DGet H a y o ∧ ((∃ v z, o = some v ∧ dGet kvs k = some z ∧ Rp K CA m h H v z) ∨ (o = none ∧ dGet kvs k = none)) := by
  obtain ⟨a, o, hk, rfl, e1, c, en, r⟩ := rp_dct S rx ed
  have ey := rp_key ry ek
  subst ey
  refine ⟨a, valV hk k, rfl, dget_core e1 c, ?_⟩
  rcases rp_dget (k := k) en r with ⟨v, z, h1, h2, h3⟩ | ⟨h1, h2⟩
  · exact .inl ⟨v, z, h1, h2, h3⟩
  · exact .inr ⟨h1, h2⟩
theorem we_get1 (x : WE X K CA W o ha ta) (y : WE X K CA W a hk tk) (hp : PE X o ha → PE X a hk → PE X e (tDGet1 ha hk)) : WE X K CA W e (tDGet1 ha hk) (dGet1 ta tk) :=
  ⟨hp x.pe y.pe, fun m h H σ ρ Q' S t => x.sim m h H σ ρ _ S (t.bind fun d h1 m1 v H1 s1 S1 r1 t1 => by
    obtain ⟨c, t1⟩ := post_ite t1
    obtain ⟨a0, rfl, isd⟩ := isD_of S1 r1 c
    refine ⟨a0, rfl, isd, y.sim m1 h1 H1 σ ρ _ (S.move s1 S1) (t1.bind fun e2 h2 m2 w H2 s2 S2 r2 t2 => ?_)⟩
    split at t2
    · rename_i kvs k ed ek
      obtain ⟨a', o', q1, q2, q3⟩ := get_rel S2 (r1.move s2) r2 ed ek
      cases q1
      refine ⟨o', q2, ?_⟩
      rcases q3 with ⟨v, z, rfl, ez, rv⟩ | ⟨rfl, ez⟩
      · rw [ez] at t2; exact t2.here S2 rv
      · rw [ez] at t2; exact t2.here S2 .non
    · exact t2.elim)⟩
theorem we_get2 (x : WE X K CA W o ha ta) (y : WE X K CA W a hk tk) (z : WE X K CA W b hx tx) (hp : PE X o ha → PE X a hk → PE X b hx → PE X e (tDGet2 ha hk hx)) : WE X K CA W e (tDGet2 ha hk hx) (dGet2 ta tk tx) :=
  ⟨hp x.pe y.pe z.pe, fun m h H σ ρ Q' S t => x.sim m h H σ ρ _ S (t.bind fun d h1 m1 v H1 s1 S1 r1 t1 => by
    obtain ⟨c, t1⟩ := post_ite t1
    obtain ⟨a0, rfl, isd⟩ := isD_of S1 r1 c
    refine ⟨a0, rfl, isd, y.sim m1 h1 H1 σ ρ _ (S.move s1 S1) (t1.bind fun e2 h2 m2 w H2 s2 S2 r2 t2 => ?_)⟩
    refine z.sim m2 h2 H2 σ ρ _ ((S.move s1 S1).move s2 S2) (t2.bind fun e3 h3 m3 w3 H3 s3 S3 r3 t3 => ?_)
    split at t3
    · rename_i kvs k ed ek
      obtain ⟨a', o', q1, q2, q3⟩ := get_rel S3 ((r1.move s2).move s3) (r2.move s3) ed ek
      cases q1
      refine ⟨o', q2, ?_⟩
      rcases q3 with ⟨v, z, rfl, ez, rv⟩ | ⟨rfl, ez⟩
      · rw [ez] at t3; exact t3.here S3 rv
      · rw [ez] at t3; exact t3.here S3 r3
    · exact t3.elim)⟩
theorem we_dpop1 (x : WE X K CA W o ha ta) (y : WE X K CA W a hk tk) (hp : PE X o ha → PE X a hk → PE X e (tDPop1 ha hk)) : WE X K CA W e (tDPop1 ha hk) (dPop1 ta tk) :=
  ⟨hp x.pe y.pe, fun m h H σ ρ Q' S t => x.sim m h H σ ρ _ S (t.bind fun d h1 m1 v H1 s1 S1 r1 t1 => by
    obtain ⟨c, t1⟩ := post_ite t1
    obtain ⟨a0, rfl, isd⟩ := isD_of S1 r1 c
    refine ⟨a0, rfl, isd, y.sim m1 h1 H1 σ ρ _ (S.move s1 S1) (t1.bind fun e2 h2 m2 w H2 s2 S2 r2 t2 => ?_)⟩
    split at t2
    · rename_i r k er ek
      have er := refOf_eq er
      subst er
      split at t2
      · rename_i kvs eo
        split at t2
        · rename_i d' eg
          obtain ⟨hkv, q, en, rr⟩ := mo_dct S2 eo
          have ey := rp_key r2 ek
          have ea := rp_ref (r1.move s2)
          cases ea
          rcases rp_dget (k := k) en rr with ⟨v, z, e1, e2, rv⟩ | ⟨_, e2⟩
          · rw [eg] at e2
            cases e2
            obtain ⟨i1, i2⟩ := rp_drop (k := k) en rr
            exact ⟨hkv, k, v, q, ey, e1, t2.put S2 eo trivial (.dct upd_same i1 (i2.mv (mv_put eo))) rv⟩
          · rw [eg] at e2; cases e2
        · exact t2.elim
      · exact t2.elim
    · exact t2.elim)⟩
theorem ws_del (x : WE X K CA W o ha ta) (y : WE X K CA W a hk tk) (hp : PE X o ha → PE X a hk → PS X st (sDDel ha hk)) : WS X K CA W st (sDDel ha hk) (dDel ta tk) :=
  ⟨hp x.pe y.pe, fun m h H σ ρ D' S q => x.sim m h H σ ρ _ S (PostS.bind S q fun d h1 m1 v H1 s1 S1 r1 t1 => y.sim m1 h1 H1 σ ρ _ (S.move s1 S1) (PostS.bind (S.move s1 S1) t1 fun e2 h2 m2 w H2 s2 S2 r2 t2 => by
    split at t2
    · rename_i r k er ek
      have er := refOf_eq er
      subst er
      split at t2
      · rename_i kvs eo
        by_cases c : (dGet kvs k).isSome = true
        · rw [if_pos c] at t2
          obtain ⟨hkv, q, en, rr⟩ := mo_dct S2 eo
          have ey := rp_key r2 ek
          have ea := rp_ref (r1.move s2)
          obtain ⟨i1, i2⟩ := rp_drop (k := k) en rr
          refine ⟨_, hkv, k, ea, q, ey, ?_, t2 m2 σ _ (stp_put S2 eo trivial) (((S.move s1 S1).move s2 S2).move (stp_put S2 eo trivial) (S2.put eo (.dct upd_same i1 (i2.mv (mv_put eo)))))⟩
          rcases rp_dget (k := k) en rr with ⟨v, z, e1, e2, rv⟩ | ⟨_, e2⟩
          · rw [e1]; rfl
          · rw [e2] at c; cases c
        · rw [if_neg c] at t2; exact t2.elim
      · exact t2.elim
    · exact t2.elim))⟩
end
/-! ### displays of dicts -/
def dPairs : List (TD × TD) → DE → CH → R (List (D × D))
  | [], _, h => .ok [] h
  | (tk, tv) :: r, ρ, h => (tk ρ h).bind fun x h => (tv ρ h).bind fun y h => (dPairs r ρ h).bind fun ps h => .ok ((x, y) :: ps) h
def keysOf : List (D × D) → Option (List (Key × D))
  | [] => some []
  | (x, y) :: r => match keyD x, keysOf r with
    | some k, some ks => some ((k, y) :: ks)
    | _, _ => none
def mergeD (kvs more : List (Key × D)) : List (Key × D) := more.foldl (fun acc kv => dPut acc kv.1 kv.2) kvs
def dDisp (nm : Bool) (ts : List (TD × TD)) : TD := fun ρ h => (dPairs ts ρ h).bind fun ps h => match keysOf ps with
  | some kvs => if kvs.length ≤ 15 then mkD nm (mergeD [] kvs) h else .no
  | none => .no
def dDNew (nm : Bool) : TD := fun _ h => mkD nm [] h
def RPs (K : PySem.W.Frag) (CA : Nat → Addr) : Mp → CH → Hp → List (V × V) → List (D × D) → Prop := fun m h H ps qs => RpAll K CA m h H (ps.map (·.1)) (qs.map (·.1)) ∧ RpAll K CA m h H (ps.map (·.2)) (qs.map (·.2))
def SimP (K : PySem.W.Frag) (CA : Nat → Addr) (W : WX) (trs : List (TE × TE)) (ts : List (TD × TD)) : Prop := ∀ (m : Mp) (h : CH) (H : Hp) (σ : L2.St) (ρ : DE) (Q' : List (V × V) → Hp → Prop), SO K CA m h H σ ρ → PostG K CA W (RPs K CA) m h H σ Q' (dPairs ts ρ h) → tPairs trs σ H Q'
structure WP (X : Cx) (K : PySem.W.Frag) (CA : Nat → Addr) (W : WX) (pos : Pos) (keys : List (Option Expr)) (values : List Expr) (trs : List (TE × TE)) (ts : List (TD × TD)) : Prop where
  pe : PPs X pos keys values trs
  sim : SimP K CA W trs ts
section
variable {X : Cx} {K : PySem.W.Frag} {CA : Nat → Addr} {W : WX} {m : Mp} {h : CH} {H : Hp} {a b : Expr} {hk hv : TE} {tk tv : TD} {pos : Pos}
theorem wp_nil : WP X K CA W pos [] [] [] [] := ⟨pps_nil, fun m h H σ ρ Q' S t => t.here S.hr ⟨.nil, .nil⟩⟩
theorem wp_cons {ks : List (Option Expr)} {vs : List Expr} {trs : List (TE × TE)} {ts : List (TD × TD)} (x : WE X K CA W a hk tk) (y : WE X K CA W b hv tv) (z : WP X K CA W pos ks vs trs ts) : WP X K CA W pos (some a :: ks) (b :: vs) ((hk, hv) :: trs) ((tk, tv) :: ts) :=
  ⟨pps_cons x.pe y.pe z.pe, fun m h H σ ρ Q' S t => x.sim m h H σ ρ _ S (t.bind fun d1 h1 m1 v1 H1 s1 S1 r1 t1 => y.sim m1 h1 H1 σ ρ _ (S.move s1 S1) (t1.bind fun d2 h2 m2 v2 H2 s2 S2 r2 t2 =>
    z.sim m2 h2 H2 σ ρ _ ((S.move s1 S1).move s2 S2) (t2.bind fun qs h3 m3 ps H3 s3 S3 r3 t3 => t3.here S3 ⟨.cons ((r1.move s2).move s3) r3.1, .cons (r2.move s3) r3.2⟩)))⟩
theorem keys_rel : ∀ (ps : List (V × V)) (qs : List (D × D)) (ks : List (Key × D)), RpAll K CA m h H (ps.map (·.1)) (qs.map (·.1)) → RpAll K CA m h H (ps.map (·.2)) (qs.map (·.2)) → keysOf qs = some ks →
    ∃ kvs : List (Key × V), ps = kvs.map (fun kv => (kV kv.1, kv.2)) ∧ kvs.map (·.1) = ks.map (·.1) ∧ RpAll K CA m h H (kvs.map (·.2)) (ks.map (·.2))
  | [], [], ks, _, _, h => by cases h; exact ⟨[], rfl, rfl, .nil⟩
  | [], _ :: _, _, h, _, _ => by cases h
  | _ :: _, [], _, h, _, _ => by cases h
  | (x, y) :: ps, (d1, d2) :: qs, ks, h1, h2, h => by
    cases h1 with
    | cons a1 b1 =>
      cases h2 with
      | cons a2 b2 =>
        simp only [keysOf] at h
        cases hk : keyD d1 with
        | none => rw [hk] at h; cases h
        | some k =>
          cases hr : keysOf qs with
          | none => rw [hk, hr] at h; cases h
          | some r =>
            rw [hk, hr] at h
            cases h
            obtain ⟨kvs, e1, e2, e3⟩ := keys_rel ps qs r b1 b2 hr
            exact ⟨(k, y) :: kvs, by rw [List.map_cons, ← e1]; have ek : x = kV k := rp_key a1 hk; rw [ek], by rw [List.map_cons, List.map_cons, e2], .cons a2 e3⟩
theorem merge_rel : ∀ (more : List (Key × V)) (dmore : List (Key × D)) (kvs : List (Key × V)) (ds : List (Key × D)), more.map (·.1) = dmore.map (·.1) → RpAll K CA m h H (more.map (·.2)) (dmore.map (·.2)) → kvs.map (·.1) = ds.map (·.1) → RpAll K CA m h H (kvs.map (·.2)) (ds.map (·.2)) →
    (mergeK kvs more).map (·.1) = (mergeD ds dmore).map (·.1) ∧ RpAll K CA m h H ((mergeK kvs more).map (·.2)) ((mergeD ds dmore).map (·.2))
  | [], [], kvs, ds, _, _, e, r => ⟨e, r⟩
  | [], _ :: _, _, _, h, _, _, _ => by simp at h
  | _ :: _, [], _, _, h, _, _, _ => by simp at h
  | (k, y) :: more, (k', d) :: dmore, kvs, ds, h, h', e, r => by
    simp only [List.map_cons, List.cons.injEq] at h
    obtain ⟨rfl, h⟩ := h
    cases h' with
    | cons a b =>
      obtain ⟨e2, r2⟩ := rp_dput (k := k) e r a
      exact merge_rel more dmore _ _ h b e2 r2
theorem doneD0 {σ : L2.St} {m1 m2 : Mp} {h1 h2 : CH} {H1 H2 : Hp} {p : Addr} {nm : Bool} {acc : List (Key × V)} {ds : List (Key × D)} {Q1 : VK} {mb : Mp} {hb : CH} {Hb : Hp} (sb : Stp mb hb Hb m1 h1 H1) (S : HR K CA m1 h1 H1) (n : H1 p = none) {u : HO} (s : Sc p (m1.add p) h1 (upd H1 p u) m2 h2 H2) (S2 : HR K CA m2 h2 H2) (e : H2 p = some (.dK acc)) (en : acc.map (·.1) = ds.map (·.1)) (r : RpAll K CA m2 h2 H2 (acc.map (·.2)) (ds.map (·.2)))
    (t : PostE K CA W mb hb Hb σ Q1 (mkD nm ds h2)) : Q1 (.ref p) H2 := by
  have z2 : m2.z = p :: m1.z := s.z
  cases nm with
  | true =>
    obtain ⟨s3, S3⟩ := done_named (o := .dct ds) S n s S2 (.dct e en (r.named S2 z2))
    refine t _ _ H2 (sb.trans s3) S3 ?_
    have := Rp.ref (K := K) (CA := CA) (m := mpNew ⟨m2.f, m1.z⟩ h2 p) (h := h2.new (.dct ds)) (H := H2) (k := h2.nx) (Nat.lt_succ_self _)
    rw [show (mpNew ⟨m2.f, m1.z⟩ h2 p) h2.nx = p from mpNew_nx] at this
    exact this
  | false => exact t _ _ H2 (sb.trans (stp_done S n s)) (S2.done z2) (.dct (done_data S n s S2) e rfl en (r.done z2))
theorem we_dnew (nm : Bool) : WE X K CA W (.Dict [] [] pos) tDNewK (dDNew nm) := ⟨pe_dnewK, fun m h H σ ρ Q' S t p n => mkD_post S.hr n rfl .nil t⟩
/-- the dict p is made meanwhile -/
theorem we_disp (nm : Bool) {ks : List (Option Expr)} {vs : List Expr} {trs : List (TE × TE)} {ts : List (TD × TD)} (x : WP X K CA W pos ks vs trs ts) (hall : ks.all (·.isSome) = true) (hl : ks.length = vs.length) (h0 : ks ≠ []) (h15 : ks.length ≤ 15) : WE X K CA W (.Dict ks vs pos) (tDisp trs) (dDisp nm ts) := by
  refine ⟨pe_disp x.pe hall hl h0 h15, fun m hh H σ ρ Q' S t p n => ?_⟩
  have S2 := S.hr.add (u := .dK []) n
  have SO2 : SO K CA (m.add p) hh (upd H p (.dK [])) σ ρ := ⟨S2, S.len, fun i d e => let ⟨v, e1, q⟩ := S.sl i d e; ⟨v, e1, q.add n⟩⟩
  have pz : p ∈ (m.add p).z := List.mem_cons_self ..
  refine x.sim (m.add p) hh _ σ ρ _ SO2 ?_
  unfold dDisp at t
  cases ep : dPairs ts ρ hh with
  | no => rw [ep] at t; exact t.elim
  | ex c fs h1 =>
    rw [ep] at t
    intro m1 cls dd H1 s1 S1 xr
    have z2 : m1.z = p :: m.z := s1.z
    refine t ⟨m1.f, m.z⟩ cls dd H1 (stp_done S.hr n s1.sc) (S1.done z2) ?_
    obtain ⟨x1, x2⟩ := xr
    refine ⟨x1, x2.imp id ?_⟩
    rintro ⟨y, hf, e1, e2, e3, e4, e5⟩
    exact ⟨y, hf, e1, (Mp.done_kp z2 y _ e2 e3).1, e3, e4, e5.done z2⟩
  | ok qs h1 =>
    rw [ep] at t
    intro m1 ps H1 s1 S1 rr
    replace t : PostE K CA W m hh H σ Q' (match keysOf qs with
      | some kvs => if kvs.length ≤ 15 then mkD nm (mergeD [] kvs) h1 else .no
      | none => .no) := t
    cases ek : keysOf qs with
    | none => rw [ek] at t; exact t.elim
    | some kvs =>
      rw [ek] at t
      obtain ⟨l, t⟩ := post_ite t
      obtain ⟨hkv, e1, e2, e3⟩ := keys_rel ps qs kvs rr.1 rr.2 ek
      have pz1 : p ∈ m1.z := by rw [s1.z]; exact pz
      obtain ⟨m3, m4⟩ := merge_rel hkv kvs [] [] e2 e3 rfl .nil
      refine ⟨(s1.zk p pz).trans upd_same, hkv, e1, by rw [len_of e2]; exact l, ?_⟩
      have sm := sc_made (u := .dK (mergeK [] hkv)) S1 pz1
      exact doneD0 .refl S.hr n (s1.sc.trans sm) (S1.made pz1) upd_same m3 (m4.mv sm.toMv) t
end
end CM
namespace CM
open PySem PySem.Spec PyProof.Rows L2

/-! ### fields -/
def putD (f : Str) (v : D) : List (Str × D) → List (Str × D)
  | [] => [(f, v)]
  | (g, x) :: r => if g = f then (g, v) :: r else (g, x) :: putD f v r
/-- an object's class and fields -/
def objOf (h : CH) : D → Option (Nat × List (Str × D))
  | .obj c fs => some (c, fs)
  | .ref k => match h.ob k with
    | some (.obj c fs) => some (c, fs)
    | _ => none
  | _ => none
def fFld (cs : List Nat) (f : Str) : F1 := fun d h => match objOf h d with
  | some (c, fs) => if c ∈ cs then (match fs.lookup f with
    | some x => .ok x h
    | none => .no) else .no
  | none => .no
/-- classes whose instances' attribute f is a field -/
def FldOf (K : PySem.W.Frag) (CA : Nat → Addr) (cs : List Nat) (f : Str) : Prop := ∀ c, c ∈ cs → Cls K (CA c) ∧ NoAttr K (CA c) f
theorem FldOf.one {K : PySem.W.Frag} {CA : Nat → Addr} {c : Nat} {f : Str} (h1 : Cls K (CA c)) (h2 : NoAttr K (CA c) f) : FldOf K CA [c] f := fun x hx => by
  rw [List.mem_singleton] at hx
  subst hx
  exact ⟨h1, h2⟩
theorem FldOf.cons {K : PySem.W.Frag} {CA : Nat → Addr} {c : Nat} {cs : List Nat} {f : Str} (h1 : Cls K (CA c)) (h2 : NoAttr K (CA c) f) (h3 : FldOf K CA cs f) : FldOf K CA (c :: cs) f := fun x hx => by
  rcases List.mem_cons.mp hx with rfl | hx
  · exact ⟨h1, h2⟩
  · exact h3 x hx
section
variable {X : Cx} {K : PySem.W.Frag} {CA : Nat → Addr} {W : WX} {m : Mp} {h : CH} {H : Hp} {e o i : Expr} {ha hi : TE} {ta ti : TD} {pos : Pos} {f : Str} {cs : List Nat}
theorem rp_obj {v : V} {d : D} {c : Nat} {fs : List (Str × D)} (S : HR K CA m h H) (r : Rp K CA m h H v d) (e : objOf h d = some (c, fs)) : ∃ a dx hf, v = .ref a ∧ H a = some (.ins (CA c) dx hf) ∧ hf.map (·.1) = fs.map (·.1) ∧ RpAll K CA m h H (hf.map (·.2)) (fs.map (·.2)) := by
  cases r with
  | obj n e1 en r => cases e; exact ⟨_, _, _, rfl, e1, en, r⟩
  | ref l =>
    simp only [objOf] at e
    split at e
    · rename_i q
      cases e
      obtain ⟨dx, xs, q1, q2, q3⟩ := mo_obj S q
      exact ⟨_, dx, xs, rfl, q1, q2, q3⟩
    · cases e
  | _ => cases e
theorem rp_look {d : D} : ∀ {fs : List (Str × V)} {dfs : List (Str × D)}, fs.map (·.1) = dfs.map (·.1) → RpAll K CA m h H (fs.map (·.2)) (dfs.map (·.2)) → dfs.lookup f = some d → ∃ v, fs.lookup f = some v ∧ Rp K CA m h H v d
  | [], [], _, _, h => by cases h
  | [], _ :: _, e, _, _ => by simp at e
  | _ :: _, [], e, _, _ => by simp at e
  | (g, v) :: fs, (g', d') :: dfs, e, r, h => by
    simp only [List.map_cons, List.cons.injEq] at e
    obtain ⟨rfl, e⟩ := e
    cases r with
    | cons r1 r2 =>
      rw [List.lookup_cons] at h ⊢
      cases q : f == g with
      | true => rw [q] at h; simp only [Option.some.injEq] at h; subst h; exact ⟨v, rfl, r1⟩
      | false => rw [q] at h; exact rp_look e r2 h
theorem look_none : ∀ {fs : List (Str × V)} {dfs : List (Str × D)}, fs.map (·.1) = dfs.map (·.1) → dfs.lookup f = none → fs.lookup f = none
  | [], [], _, _ => rfl
  | [], _ :: _, e, _ => by simp at e
  | _ :: _, [], e, _ => by simp at e
  | (g, v) :: fs, (g', d') :: dfs, e, h => by
    simp only [List.map_cons, List.cons.injEq] at e
    obtain ⟨rfl, e⟩ := e
    rw [List.lookup_cons] at h ⊢
    cases q : f == g with
    | true => rw [q] at h; cases h
    | false => rw [q] at h; exact look_none e h
theorem rp_putF {v : V} {d : D} (r' : Rp K CA m h H v d) : ∀ {fs : List (Str × V)} {dfs : List (Str × D)}, fs.map (·.1) = dfs.map (·.1) → RpAll K CA m h H (fs.map (·.2)) (dfs.map (·.2)) →
    (putF f v fs).map (·.1) = (putD f d dfs).map (·.1) ∧ RpAll K CA m h H ((putF f v fs).map (·.2)) ((putD f d dfs).map (·.2))
  | [], [], _, _ => ⟨rfl, .cons r' .nil⟩
  | [], _ :: _, e, _ => by simp at e
  | _ :: _, [], e, _ => by simp at e
  | (g, x) :: fs, (g', y) :: dfs, e, r => by
    simp only [List.map_cons, List.cons.injEq] at e
    obtain ⟨rfl, e⟩ := e
    cases r with
    | cons r1 r2 =>
      obtain ⟨i1, i2⟩ := rp_putF r' e r2
      unfold putF putD
      by_cases q : g = f
      · rw [if_pos q, if_pos q]
        exact ⟨by simp [e], .cons r' r2⟩
      · rw [if_neg q, if_neg q]
        exact ⟨by simp only [List.map_cons]; rw [i1], .cons r1 i2⟩
theorem we_fld (hf : FldOf K CA cs f) (x : WE X K CA W e ha ta) (hb : attributeBase e f X.env (eval e X.env) = eval e X.env := by rfl) (hK : X.K = K := by rfl) : WE X K CA W (.Attribute e f pos) (tFld K ha f) (dUn (fFld cs f) ta) := by
  subst hK
  refine ⟨pe_fld x.pe hb, fun m h H σ ρ Q' S t => x.sim m h H σ ρ _ S (t.bind fun d h1 m1 v H1 s1 S1 r1 t1 => ?_)⟩
  unfold fFld at t1
  split at t1
  · rename_i c fs eo
    by_cases hc : c ∈ cs
    · rw [if_pos hc] at t1
      split at t1
      · rename_i y el
        obtain ⟨a, dx, hfs, rfl, q1, q2, q3⟩ := rp_obj S1 r1 eo
        obtain ⟨u, hu, ru⟩ := rp_look q2 q3 el
        exact ⟨a, _, dx, hfs, u, rfl, q1, (hf c hc).1, (hf c hc).2, hu, t1.here S1 ru⟩
      · exact t1.elim
    · rw [if_neg hc] at t1; exact t1.elim
  · exact t1.elim
/-! ### stores to fields and items -/
def gFldH (K : PySem.W.Frag) (to : TE) (f : Str) : TG := fun v σ H Q => to σ H fun x H1 => ∃ a C dx fs, x = .ref a ∧ H1 a = some (.ins C dx fs) ∧ Cls K C ∧ NoAttr K C f ∧ fs.length < 1000 ∧ Q σ (upd H1 a (.ins C dx (putF f v fs)))
theorem pg_fld {to : TE} (ho : PE X o to) : PG X (.Attribute o f pos) (gFldH X.K to f) := by
  refine ⟨fun pins s σ H v u Q I r hq => ?_⟩
  show wpAny _ X.A (do
    let ov ← holding [u] (eval o X.env)
    standAt pos.atName
    holding [u, ov] (setAttr ov f u)
    release [u, ov] []) _ _ s
  refine wpAny_bind (wpAny_holding (thn (ho.run pins s σ H _ I hq) fun ov s1 q => ?_))
  obtain ⟨x, H1, I1, r1, a, C, dx, fs, rfl, ea, c, n, l, q⟩ := q
  obtain rfl : ov = Value.ref a := r1
  refine wpAny_bind (wpAny_standAt (wpAny_bind (wpAny_holding (setattr_ok I1 ea c n l r fun s3 I3 => ?_))))
  exact wpAny_release ⟨σ, _, I3, q⟩
def gdFld (cs : List Nat) (f : Str) (to : TD) : TGD := fun d ρ h => (to ρ h).calm fun x h => match refOf x with
  | some k => match h.ob k with
    | some (.obj c fs) => if c ∈ cs ∧ fs.length < 1000 then .ok ρ (h.put k (.obj c (putD f d fs))) else .no
    | _ => .no
  | none => .no
theorem PostT'.calm {α β : Type} {RR : Mp → CH → Hp → β → α → Prop} {Q1 : β → Hp → Prop} {σ : L2.St} {sl : List Nat} {Q' : L2.St → Hp → Prop} {r : R α} {k : α → CH → R DE} (q : PostT' K CA m h H σ sl Q' (r.calm k))
    (g : ∀ a h1 m1 b H1, Stp m h H m1 h1 H1 → HR K CA m1 h1 H1 → RR m1 h1 H1 b a → PostT' K CA m1 h1 H1 σ sl Q' (k a h1) → Q1 b H1) : PostG K CA W RR m h H σ Q1 r := by
  cases r with
  | ok a h1 => exact fun m1 b H1 s S rr => g a h1 m1 b H1 s S rr (PostT'.mono (show PostT' K CA m h H σ sl Q' (k a h1) from q) s rfl (fun _ _ => rfl) fun _ z => z)
  | ex c fs h1 => exact q.elim
  | no => exact q.elim
theorem wg_fld (hf : FldOf K CA cs f) (x : WE X K CA W o ha ta) (hK : X.K = K := by rfl) : WG X K CA (.Attribute o f pos) [] (gFldH K ha f) (gdFld cs f ta) := by
  subst hK
  refine ⟨pg_fld x.pe, fun m hh H σ ρ v d Q' S r q => x.sim m hh H σ ρ _ S (PostT'.calm q fun a h1 m1 w H1 s1 S1 r1 q1 => ?_)⟩
  split at q1
  · rename_i k er
    have er := refOf_eq er
    subst er
    split at q1
    · rename_i c fs eo
      by_cases hc : c ∈ cs ∧ fs.length < 1000
      · rw [if_pos hc] at q1
        obtain ⟨dx, hfs, e1, en, rr⟩ := mo_obj S1 eo
        obtain ⟨i1, i2⟩ := rp_putF (f := f) (r.move s1) en rr
        refine ⟨_, _, dx, hfs, rp_ref r1, e1, (hf c hc.1).1, (hf c hc.1).2, by have := congrArg List.length en; simp at this; omega, ?_⟩
        have sp := stp_put (o' := .obj c (putD f d fs)) (u := .ins (CA c) dx (putF f v hfs)) S1 eo trivial
        exact q1 m1 σ _ sp ((S.move s1 S1).move sp (S1.put eo (.obj upd_same i1 (i2.mv (mv_put eo))))) rfl fun _ _ => rfl
      · rw [if_neg hc] at q1; exact q1.elim
    · exact q1.elim
  · exact q1.elim
/-- o[i] = v: a list, a dict -/
def rSetU : V → V → V → Hp → (Hp → Prop) → Prop := fun o i v H Q => rSetL o i v H Q ∨ ∃ a H', o = .ref a ∧ DPut H a i v H' ∧ Q H'
theorem set_U (hu : X.A.units + 1 < cLine) : PSet X rSetU := by
  intro pins s σ H o i v ov iv u Q I ro ri rv hq
  rcases hq with hq | ⟨a, H', rfl, dp, q⟩
  · exact set_list pins s σ H o i v ov iv u Q I ro ri rv hq
  · obtain rfl : ov = Value.ref a := ro
    exact d_setItem hu I dp ri rv fun s4 I4 => ⟨H', I4, q⟩
def gdSub (to ti : TD) : TGD := fun d ρ h => (to ρ h).calm fun x h => (ti ρ h).calm fun y h => match refOf x with
  | some k => match h.ob k with
    | some (.lst ds) => (match y with
      | .int i => (match ixN ds.length i with
        | some j => .ok ρ (h.put k (.lst (ds.set j d)))
        | none => .no)
      | _ => .no)
    | some (.dct kvs) => (match keyD y with
      | some key => if kvs.length < sizeLine then .ok ρ (h.put k (.dct (dPut kvs key d))) else .no
      | none => .no)
    | _ => .no
  | none => .no
theorem wg_sub (hu : X.A.units + 1 < cLine) (x : WE X K CA W o ha ta) (y : WE X K CA W i hi ti) (hp : PE X o ha → PE X i hi → PSet X rSetU → PG X e (gSub ha hi rSetU)) : WG X K CA e [] (gSub ha hi rSetU) (gdSub ta ti) := by
  refine ⟨hp x.pe y.pe (set_U hu), fun m hh H σ ρ v d Q' S r q => x.sim m hh H σ ρ _ S (PostT'.calm q fun a h1 m1 w H1 s1 S1 r1 q1 => y.sim m1 h1 H1 σ ρ _ (S.move s1 S1) (PostT'.calm q1 fun b h2 m2 w2 H2 s2 S2 r2 q2 => ?_))⟩
  split at q2
  · rename_i k er
    have er := refOf_eq er
    subst er
    have ew := rp_ref (r1.move s2)
    have rv := (r.move s1).move s2
    have SS := (S.move s1 S1).move s2 S2
    split at q2
    · rename_i ds eo
      split at q2
      · split at q2
        · rename_i j ej
          obtain ⟨ys, e1, rr⟩ := mo_lst S2 eo
          cases r2
          have sp := stp_put (o' := .lst (ds.set j d)) (u := .lst (ys.set j v)) S2 eo trivial
          exact .inl ⟨_, ys, _, j, ew, rfl, e1, by rw [rr.length]; exact ej, q2 m2 σ _ sp (SS.move sp (S2.put eo (.lst upd_same ((rr.set j rv).mv (mv_put eo))))) rfl fun _ _ => rfl⟩
        · exact q2.elim
      · exact q2.elim
    · rename_i kvs eo
      split at q2
      · rename_i key ek
        by_cases hz : kvs.length < sizeLine
        · rw [if_pos hz] at q2
          obtain ⟨hkv, e1, en, rr⟩ := mo_dct S2 eo
          have ey := rp_key r2 ek
          subst ey
          obtain ⟨i1, i2⟩ := rp_dput (k := key) en rr rv
          have sp := stp_put (o' := .dct (dPut kvs key d)) (u := .dK (putK hkv key v)) S2 eo trivial
          exact .inr ⟨_, _, ew, DPut.k e1 (by rw [len_of en]; exact hz), q2 m2 σ _ sp (SS.move sp (S2.put eo (.dct upd_same i1 (i2.mv (mv_put eo))))) rfl fun _ _ => rfl⟩
        · rw [if_neg hz] at q2; exact q2.elim
      · exact q2.elim
    · exact q2.elim
  · exact q2.elim
end
/-! ### o.f += e -/
def dFldAug (cs : List Nat) (f : Str) (to tv : TD) : SD := fun ρ h => (to ρ h).toS ρ fun x h => match refOf x with
  | some k => match h.ob k with
    | some (.obj c fs) => if c ∈ cs ∧ fs.length < 1000 then (match fs.lookup f with
      | some (.int i) => (tv ρ h).toS ρ fun y h2 => (match y with
        | .int j => (match h2.ob k with
          | some (.obj c2 fs2) => if c2 = c ∧ fs2.length < 1000 then .nx ρ (h2.put k (.obj c (putD f (.int (i + j)) fs2))) else .no
          | _ => .no)
        | _ => .no)
      | _ => .no) else .no
    | _ => .no
  | none => .no
/-! ### slices -/
def cutD (xs : List D) (lo hi : Option Int) : List D := (xs.drop (HT.sIx xs.length 0 lo)).take (HT.sIx xs.length xs.length hi - HT.sIx xs.length 0 lo)
theorem rp_cut {K : PySem.W.Frag} {CA : Nat → Addr} {m : Mp} {h : CH} {H : Hp} {vs : List V} {ds : List D} {lo hi : Option Int} (r : RpAll K CA m h H vs ds) : RpAll K CA m h H (cutV vs lo hi) (cutD ds lo hi) := by
  unfold cutV cutD
  rw [r.length]
  exact (r.drop _).take _
abbrev TDo := DE → CH → R (Option Int)
def dNoPart : TDo := fun _ h => .ok none h
def dPart (t : TD) : TDo := fun ρ h => (t ρ h).bind fun d h => match d with
  | .int i => .ok (some i) h
  | _ => .no
def dSl (nm : Bool) (ta : TD) (tl th : TDo) : TD := fun ρ h => (ta ρ h).bind fun x h => (tl ρ h).bind fun l h => (th ρ h).bind fun u h => match x with
  | .tup ds => .ok (.tup (cutD ds l u)) h
  | x => match lstOf h x with
    | some ds => mkL nm (cutD ds l u) h
    | none => .no
def RO : Mp → CH → Hp → Option Int → Option Int → Prop := fun _ _ _ b a => b = a
def SimO (K : PySem.W.Frag) (CA : Nat → Addr) (W : WX) (tH : TO) (t : TDo) : Prop := ∀ (m : Mp) (h : CH) (H : Hp) (σ : L2.St) (ρ : DE) (Q' : Option Int → Hp → Prop), SO K CA m h H σ ρ → PostG K CA W RO m h H σ Q' (t ρ h) → tH σ H Q'
structure WO (X : Cx) (K : PySem.W.Frag) (CA : Nat → Addr) (W : WX) (e : Option Expr) (tH : TO) (t : TDo) : Prop where
  pe : PO X e tH
  sim : SimO K CA W tH t
section
variable {X : Cx} {K : PySem.W.Frag} {CA : Nat → Addr} {W : WX} {e a : Expr} {lo hi : Option Expr} {ha : TE} {ta : TD} {hl hh : TO} {tl th : TDo} {pos p2 : Pos}
theorem wo_none : WO X K CA W none tNoPart dNoPart := ⟨po_none, fun m h H σ ρ Q' S t => t.here S.hr rfl⟩
theorem wo_some (x : WE X K CA W e ha ta) : WO X K CA W (some e) (tPart ha) (dPart ta) := ⟨po_some x.pe, fun m h H σ ρ Q' S t => x.sim m h H σ ρ _ S (t.bind fun d h1 m1 v H1 s1 S1 r1 t1 => by
  split at t1
  · cases r1; exact ⟨_, rfl, t1.here S1 rfl⟩
  · exact t1.elim)⟩
abbrev rSlU (K : PySem.W.Frag) : V → Option Int → Option Int → Hp → VK → Prop := fun x lo hi H Q => rSlL K x lo hi H Q ∨ rSlA K x lo hi H Q
theorem cut_whole {xs : List D} {lo hi : Option Int} (h1 : HT.sIx xs.length 0 lo = 0) (h2 : HT.sIx xs.length xs.length hi = xs.length) : cutD xs lo hi = xs := by
  unfold cutD
  rw [h1, h2]
  simp
theorem we_slice (nm : Bool) (x : WE X K CA W a ha ta) (y : WO X K CA W lo hl tl) (z : WO X K CA W hi hh th) (hK : X.K = K := by rfl) : WE X K CA W (.Subscript a (.Slice lo hi none p2) pos) (tSl (rSlU K) ha hl hh) (dSl nm ta tl th) := by
  subst hK
  refine ⟨pe_slice (sl_list.or sl_tupA) x.pe y.pe z.pe, fun m h H σ ρ Q' S t => x.sim m h H σ ρ _ S (t.bind fun d h1 m1 v H1 s1 S1 r1 t1 => ?_)⟩
  refine y.sim m1 h1 H1 σ ρ _ (S.move s1 S1) (t1.bind fun l h2 m2 l' H2 s2 S2 e2 t2 => ?_)
  cases (show l' = l from e2)
  refine z.sim m2 h2 H2 σ ρ _ ((S.move s1 S1).move s2 S2) (t2.bind fun u h3 m3 u' H3 s3 S3 e3 t3 => ?_)
  cases (show u' = u from e3)
  have r3 := (r1.move s2).move s3
  split at t3
  · obtain ⟨b, xs, rfl, e1, r2⟩ := rp_tup r3
    refine .inr ⟨b, xs, rfl, e1, fun z => ?_, fun _ p n => t3.laid S3 n (.tup (S3.fresh n) upd_same (rps_laid S3 n (rp_cut r2)))⟩
    rename_i ds
    have e : cutD ds l u = ds := cut_whole (by rw [← r2.length]; exact z.1) (by rw [← r2.length]; exact z.2)
    rw [e] at t3
    exact t3.here S3 r3
  · split at t3
    · rename_i ds ed
      obtain ⟨b, xs, rfl, e1, r2⟩ := rp_lst S3 r3 ed
      exact .inl ⟨b, xs, rfl, .of e1, fun p n => mkL_post S3 n (rp_cut r2) t3⟩
    · exact t3.elim
end
end CM
namespace CM
open PySem PySem.Spec PyProof.Rows L2

/-! ### defs, where no object is shown at the moment -/
/-- what a def promises; g: it may show objects, so no guard may be under way -/
structure FnG (P : Program) (w : World) (K : PySem.W.Frag) (mg : Str → Option Value) (base : Heap) (g : Bool) (k : Nat) (f : Addr) (fd : FuncData) (ps : List Str) (sp : Sp) : Prop where
  ln : ∀ vs H Q E, sp vs H Q E → vs.length = ps.length
  go : ∀ (A : Around) (outer : List Env) (s : Shared) (H : Hp) (args : Args) (us : List Value) (vs : List V) (Q : VK) (E : XK), (g = true → A.guards = some []) → Room k A → Env0 P w K mg base A outer s H → BindsTo s fd args (ps.zip us) → Vals vs us →
    sp vs H Q E → codeAny (model P w) A (.call (.ref f) args) (CR (L2.CX P w) outer P w H s Q E) s
theorem FnG.mono {P : Program} {w : World} {K : PySem.W.Frag} {mg : Str → Option Value} {base : Heap} {g : Bool} {j k : Nat} {f : Addr} {fd : FuncData} {ps : List Str} {sp : Sp} (F : FnG P w K mg base g j f fd ps sp) (h : j ≤ k) : FnG P w K mg base g k f fd ps sp :=
  ⟨F.ln, fun A o s H a us vs Q E hg hr => F.go A o s H a us vs Q E hg (hr.mono h)⟩
abbrev cxD (P : Program) (w : World) (K : PySem.W.Frag) (mg : Str → Option Value) (base : Heap) (N : List Str) (qual : Str) (st : Stmt) (f : Addr) (cd : Value) (A : Around) (outer : List Env) (s : Shared) (H : Hp) (E : XK) : Cx :=
  cxOf (L2.CX P w) P w K mg base N qual (defScope st) f cd A outer s H E
abbrev wxD (E : XK) : WX := fun cls d _ H => E cls d H
section
variable {P : Program} {w : World} {K : PySem.W.Frag} {mg : Str → Option Value} {base : Heap} {CA : Nat → Addr} {g : Bool}
theorem FnG.mk' {nm qual : Str} {st : Stmt} {f : Addr} {fd : FuncData} {N ps : List Str} {k : Nat} {sp : Sp} (F : Fun K nm qual st f fd) (S : FnScope N ps (defScope st)) (ln : ∀ vs H Q E, sp vs H Q E → vs.length = ps.length)
    (body : ∀ (cd : Value) (A : Around) (outer : List Env) (s : Shared) (H : Hp) (vs : List V) (Q : VK) (E : XK), (g = true → A.guards = some []) → Room k (A.deeper (envOfC qual (defScope st) s.heap.objs.size f cd)) → sp vs H Q E →
      ∃ t, PSs (cxD P w K mg base N qual st f cd A outer s H E) (defBody st) t ∧ t { nx := fun _ H2 => Q .non H2, rt := Q } (start N vs) H) : FnG P w K mg base g (k + 1) f fd ps sp := by
  obtain ⟨x1, x2, x3, x4, x5, x6, cd, x8, x9, rfl, look, code⟩ := F.ex
  refine ⟨ln, fun A outer s H args us vs Q E hg room e0 bd rv hs => ?_⟩
  have len1 := ln _ _ _ _ hs
  have kin : K.In s.heap := e0.mod.kin.keeps fun b o e => (e0.bs b o e).1
  have nl : s.heap.NoLimit := e0.mod.nolimit.keeps fun b o e => (e0.bs b o e).1
  have kinds : ∀ y, y ∈ ps.zip us → (defScope st).names.lookup y.1 = some .local ∨ ((defScope st).names.lookup y.1 = some .cell ∧ ((cellsFrom (s.heap.objs.size + 1) (defScope st).names []).lookup y.1).isSome = true) := by
    rintro ⟨a, b⟩ hm
    exact (S.par a (List.of_mem_zip hm).1).imp id fun q => ⟨q, PySem.W.cellsFrom_some _ _ _ (.inl q)⟩
  refine codeAny_call_function room.depth (kin _ _ look) rfl S.co S.gen rfl (PySem.W.codeRec_of kin code) (bd _ _ _ _ (wpAny_newFunctionEnv_cells S.kind kinds fun env ee s1 hc => ?_))
  cases ee
  refine ⟨nl.keeps hc.toInCall.keep, codeAny_func ?_⟩
  obtain ⟨t, ht, hq⟩ := body cd A outer s H vs Q E hg (room.deeper _) hs
  have inv : Inv (cxD P w K mg base N qual st f cd A outer s H E) [] (start N vs) H s1 := inv_start S room.hd e0 len1 rv hc
  have back : ∀ {σ' : L2.St} {H2 : Hp} {v : V} {u : Value} {s2 : Shared}, Inv (cxD P w K mg base N qual st f cd A outer s H E) [] σ' H2 s2 → RelV v u → Q v H2 → CE outer P w H s Q u s2 := fun {_ H2 v _ _} J r q => ⟨v, H2, J.os, J.bare, J.base, J.hok, r, q⟩
  refine wpAny_mono (ht.run [] s1 (start N vs) H _ inv hq) (fun fl s2 h2 => ?_) fun _ _ z => z
  rcases fl with _ | _ | _ | u
  · obtain ⟨_, _, J, q⟩ := h2
    exact back (v := V.non) (u := Value.none) J rfl q
  · obtain ⟨_, _, _, q⟩ := h2; exact False.elim q
  · obtain ⟨_, _, _, q⟩ := h2; exact False.elim q
  · obtain ⟨_, _, _, J, r, q⟩ := h2
    exact back J r q
theorem FnG.ok {k : Nat} {f : Addr} {fd : FuncData} {ps : List Str} {sp : Sp} (F : FnG P w K mg base false k f fd ps sp) : FnOk P w K mg base (L2.CX P w) k f fd ps sp := ⟨F.ln, fun A o s H a us vs Q E hr => F.go A o s H a us vs Q E (fun z => nomatch z) hr⟩
/-! ### promises about data -/
def spD (K : PySem.W.Frag) (CA : Nat → Addr) (n : Nat) (F : FD) : Sp := fun vs H Q E => vs.length = n ∧ ∃ (m : Mp) (h : CH) (ds : List D), HR K CA m h H ∧ RpAll K CA m h H vs ds ∧ PostE K CA (wxD E) m h H [] Q (F ds h)
/-- the slots at a def's entry -/
def startD (N : Nat) (ds : List D) : DE := ds.map some ++ List.replicate (N - ds.length) none
def RS.res : RS → R D
  | .nx _ h => .ok .non h
  | .rt d h => .ok d h
  | .ex _ c fs h => .ex c fs h
  | _ => .no
def bodyF (N : Nat) (u : SD) : FD := fun ds h => (u (startD N ds) h).res
theorem so_start {m : Mp} {h : CH} {H : Hp} {vs : List V} {ds : List D} (N : List Str) (hl : vs.length ≤ N.length) (S : HR K CA m h H) (r : RpAll K CA m h H vs ds) : SO K CA m h H (start N vs) (startD N.length ds) := by
  have hds := r.length
  refine ⟨S, by simp [L2.start, startD, hds], fun i s e => ?_⟩
  unfold startD at e
  by_cases hi : i < ds.length
  · rw [List.getElem?_append_left (by simpa using hi), List.getElem?_map] at e
    cases q : ds[i]? with
    | none => rw [q] at e; cases e
    | some d =>
      rw [q] at e; cases e
      obtain ⟨v, e2, rv⟩ := r.getD q
      refine ⟨v, ?_, rv⟩
      unfold L2.start
      have hi := (List.getElem?_eq_some_iff.mp e2).1
      rw [List.getElem?_append_left (by simpa using hi), List.getElem?_map, e2]
      rfl
  · rw [List.getElem?_append_right (by simpa using hi), List.getElem?_replicate] at e
    split at e <;> cases e
theorem res_post {E : XK} {m : Mp} {h : CH} {H : Hp} {Q : VK} {r : RS} {σ : L2.St} (t : PostE K CA (wxD E) m h H σ Q r.res) : PostS K CA (wxD E) m h H { nx := fun _ H2 => Q .non H2, rt := Q } r := by
  cases r with
  | nx ρ' h' => exact fun m' σ' H' s S => t m' .non H' s S.hr .non
  | rt d h' => exact t
  | bk ρ' h' => exact t.elim
  | ct ρ' h' => exact t.elim
  | ex ρ' c fs h' => exact fun m' cls dd σ' H' s S x => t m' cls dd H' s S.hr x
  | no => exact t
def noxF (F : FD) : FD := fun ds h => (F ds h).calm fun d h => .ok d h
/-- a def, by the reading of its body -/
theorem okD {nm qual : Str} {st : Stmt} {f : Addr} {fd : FuncData} {N ps : List Str} {k n l : Nat} {u : SD} (F : Fun K nm qual st f fd) (S : FnScope N ps (defScope st)) (hm : ps.length = l) (hn : N.length = n)
    (hb : ∀ (cd : Value) (A : Around) (outer : List Env) (s : Shared) (H : Hp) (E : XK), (g = true → A.guards = some []) → Room k (A.deeper (envOfC qual (defScope st) s.heap.objs.size f cd)) →
      Takes (cxD P w K mg base N qual st f cd A outer s H E) (wxD E) → ∃ tS, WSs (cxD P w K mg base N qual st f cd A outer s H E) K CA (wxD E) (defBody st) tS u) : FnG P w K mg base g (k + 1) f fd ps (spD K CA l (bodyF n u)) := by
  subst hm hn
  refine FnG.mk' F S (fun vs H Q E h => h.1) fun cd A outer s H vs Q E hg hr h => ?_
  obtain ⟨hl, m, ch, ds, hR, r, q⟩ := h
  obtain ⟨t, ws⟩ := hb cd A outer s H E hg hr (takes_of rfl rfl rfl rfl)
  have hle : vs.length ≤ N.length := by
    have := congrArg List.length S.pre
    rw [List.length_take] at this
    omega
  exact ⟨t, ws.pe, ws.sim m ch H _ _ _ (so_start N hle hR r) (res_post q)⟩
/-- a getter: no exception leaves it -/
theorem okP {nm qual : Str} {st : Stmt} {fa : Addr} {fd : FuncData} {N ps : List Str} {k l n : Nat} {u : SD} (F : Fun K nm qual st fa fd) (S : FnScope N ps (defScope st)) (hm : ps.length = l) (hn : N.length = n)
    (hb : ∀ (cd : Value) (A : Around) (outer : List Env) (s : Shared) (H : Hp) (E : XK), Room k (A.deeper (envOfC qual (defScope st) s.heap.objs.size fa cd)) →
      ∃ tS, WSs (cxOf L2.CX0 P w K mg base N qual (defScope st) fa cd A outer s H E).nox K CA W0 (defBody st) tS u) : FnOk P w K mg base L2.CX0 (k + 1) fa fd ps (spD K CA l (noxF (bodyF n u))) := by
  subst hm hn
  refine F.ok S (fun vs H Q E h => h.1) fun cd A outer s H vs Q E hr h => ?_
  obtain ⟨hl, m, ch, ds, hR, r, q⟩ := h
  obtain ⟨t, ws⟩ := hb cd A outer s H E hr
  have hle : vs.length ≤ N.length := by
    have := congrArg List.length S.pre
    rw [List.length_take] at this
    omega
  refine ⟨t, ws.pe, ws.sim m ch H _ _ _ (so_start N hle hR r) ?_⟩
  replace q : PostE K CA (wxD E) m ch H [] Q ((u (startD N.length ds) ch).res.calm fun d h => .ok d h) := q
  cases e : u (startD N.length ds) ch with
  | nx ρ' h' => rw [e] at q; exact fun m' σ' H' s S => q m' .non H' s S.hr .non
  | rt d h' => rw [e] at q; exact q
  | bk ρ' h' => rw [e] at q; exact q.elim
  | ct ρ' h' => rw [e] at q; exact q.elim
  | ex ρ' c fs h' => rw [e] at q; exact q.elim
  | no => rw [e] at q; exact q
/-- a def of the module -/
structure Df (P : Program) (w : World) (K : PySem.W.Frag) (mg : Str → Option Value) (base : Heap) (CA : Nat → Addr) (nm : Str) (g : Bool) (k : Nat) (ps : List Str) (F : FD) (f : Addr) (fd : FuncData) : Prop where
  G : FnG P w K mg base g k f fd ps (spD K CA ps.length F)
  hm : mg nm = some (.ref f)
  hk : PySem.W.keepIn K (.ref f) = true
/-- the ground of a recursion -/
theorem FnG.none {k : Nat} {f : Addr} {fd : FuncData} {ps : List Str} {l : Nat} : FnG P w K mg base g k f fd ps (spD K CA l fun _ _ => .no) :=
  ⟨fun _ _ _ _ h => by obtain ⟨_, _, _, _, _, _, z⟩ := h; exact z.elim, fun _ _ _ _ _ _ _ _ _ _ _ _ _ _ h => by obtain ⟨_, _, _, _, _, _, z⟩ := h; exact z.elim⟩
theorem Df.none {nm : Str} {k : Nat} {ps : List Str} {F : FD} {f : Addr} {fd : FuncData} {k' : Nat} {F' : FD} (d : Df P w K mg base CA nm g k' ps F' f fd) : Df P w K mg base CA nm g k ps (fun _ _ => .no) f fd := ⟨.none, d.hm, d.hk⟩
end
/-! ### where the arguments come from -/
/-- the i-th positional argument, the i-th keyword's, a default -/
inductive Src where
  | p (i : Nat) | k (i : Nat) | c (d : D)
def pickD (ds zs : List D) : List Src → List D
  | [] => []
  | .p i :: r => ds.getD i .non :: pickD ds zs r
  | .k i :: r => zs.getD i .non :: pickD ds zs r
  | .c d :: r => d :: pickD ds zs r
def pickL (us ws : List Value) : List Src → List Value → List Value
  | [], _ => []
  | .p i :: r, cs => us.getD i .none :: pickL us ws r cs
  | .k i :: r, cs => ws.getD i .none :: pickL us ws r cs
  | .c _ :: r, c :: cs => c :: pickL us ws r cs
  | .c _ :: r, [] => .none :: pickL us ws r []
def consts : List Src → List D
  | [] => []
  | .p _ :: r => consts r
  | .k _ :: r => consts r
  | .c d :: r => d :: consts r
/-- the value stands for the data, whatever happens -/
def Ever (K : PySem.W.Frag) (CA : Nat → Addr) (u : Value) (d : D) : Prop := ∃ v, RelV v u ∧ ∀ m h H, Rp K CA m h H v d
/-- how the arguments bind -/
structure KwB (K : PySem.W.Frag) (CA : Nat → Addr) (fd : FuncData) (ps : List Str) (n : Nat) (ks : List Str) (src : List Src) : Prop where
  ex : ∃ cs : List Value, Paired (Ever K CA) cs (consts src) ∧ ∀ (s : Shared) (us ws : List Value), K.In s.heap → us.length = n → ws.length = ks.length → BindsTo s fd ⟨us, ks.zip ws⟩ (ps.zip (pickL us ws src cs))
section
variable {K : PySem.W.Frag} {CA : Nat → Addr} {m : Mp} {h : CH} {H : Hp}
theorem getP_rel {vs : List V} {us : List Value} {ds : List D} (r : Vals vs us) (rd : RpAll K CA m h H vs ds) (i : Nat) : ∃ v, RelV v (us.getD i .none) ∧ Rp K CA m h H v (ds.getD i .non) := by
  induction r generalizing ds i with
  | nil => cases rd; exact ⟨.non, rfl, .non⟩
  | cons a _ ih =>
    cases rd with
    | cons b rd =>
      cases i with
      | zero => exact ⟨_, a, b⟩
      | succ i => exact ih rd i
theorem pick_rel {vs zs : List V} {us ws : List Value} {ds es : List D} (r : Vals vs us) (rd : RpAll K CA m h H vs ds) (rz : Vals zs ws) (re : RpAll K CA m h H zs es) : ∀ {src : List Src} {cs : List Value}, Paired (Ever K CA) cs (consts src) →
    ∃ xs, Vals xs (pickL us ws src cs) ∧ RpAll K CA m h H xs (pickD ds es src)
  | [], _, _ => ⟨[], .nil, .nil⟩
  | .p i :: src, cs, q => by
    obtain ⟨xs, h1, h2⟩ := pick_rel r rd rz re (src := src) (cs := cs) q
    obtain ⟨v, h3, h4⟩ := getP_rel r rd i
    exact ⟨v :: xs, .cons h3 h1, .cons h4 h2⟩
  | .k i :: src, cs, q => by
    obtain ⟨xs, h1, h2⟩ := pick_rel r rd rz re (src := src) (cs := cs) q
    obtain ⟨v, h3, h4⟩ := getP_rel rz re i
    exact ⟨v :: xs, .cons h3 h1, .cons h4 h2⟩
  | .c d :: src, cs, q => by
    cases q with
    | cons a q =>
      obtain ⟨xs, h1, h2⟩ := pick_rel r rd rz re (src := src) q
      obtain ⟨v, h3, h4⟩ := a
      exact ⟨v :: xs, .cons h3 h1, .cons (h4 m h H) h2⟩
theorem KwB.of {fd : FuncData} {ps : List Str} {n : Nat} {ks : List Str} {src : List Src} (hc : consts src = []) (b : ∀ (us ws : List Value), us.length = n → ws.length = ks.length → bindArgs fd ⟨us, ks.zip ws⟩ = pure (ps.zip (pickL us ws src []))) : KwB K CA fd ps n ks src :=
  ⟨[], by rw [hc]; exact .nil, fun s us ws _ h1 h2 => .of_eq (b us ws h1 h2)⟩
end
/-! ### calls -/
/-- a def's reading, at the arguments picked -/
def dCallN (n l : Nat) (src : List Src) (F : FD) (ts tk : TDs) : TD := fun ρ h => (ts ρ h).bind fun ds h => (tk ρ h).bind fun zs h => if ds.length = n ∧ zs.length = l then F (pickD ds zs src) h else .no
def dCall (n : Nat) (F : FD) (ts : TDs) : TD := fun ρ h => (ts ρ h).bind fun ds h => if ds.length = n then F ds h else .no
def tCallN (K : PySem.W.Frag) (CA : Nat → Addr) (W : WX) (n l : Nat) (G : List D → List D → CH → R D) (t tk : TA) : TE := fun σ H Q => t σ H fun vs H1 => tk σ H1 fun zs H2 => vs.length = n ∧ zs.length = l ∧ ∃ (m : Mp) (h : CH) (ds es : List D), HR K CA m h H2 ∧ RpAll K CA m h H2 vs ds ∧ RpAll K CA m h H2 zs es ∧ PostE K CA W m h H2 σ Q (G ds es h)
section
variable {X : Cx} {K : PySem.W.Frag} {CA : Nat → Addr} {W : WX} {o e : Expr} {es : List Expr} {kws : List Keyword} {pos apos p : Pos} {ha : TE} {ta : TD} {hs hk : TA} {ts tk : TDs} {x nm : Str} {g : Bool} {k n l c0 : Nat} {ps ks : List Str} {src : List Src} {F : FD} {f : Addr} {fd : FuncData}
theorem run_fnG {sp : Sp} {Ex : L2.St → XK} {pins : List (Addr × Obj)} {σ : L2.St} {H : Hp} {s : Shared} {Q : VK} {args : Args} {us : List Value} {vs : List V} (G : FnG X.prog X.w X.K X.mg X.base g k f fd ps sp) (hG : g = true → X.A.guards = some []) (hr : Room k X.A)
    (hb : us.length = ps.length → BindsTo s fd args (ps.zip us)) (hx : PassesAt (L2.CX X.prog X.w) X σ (Ex σ)) (I : Inv X pins σ H s) (r : Vals vs us) (h : sp vs H Q (Ex σ)) : codeAny (model X.prog X.w) X.A (.call (.ref f) args) (fun r s' => match r with | .ok (.ret u) => EP X pins σ Q u s' | .ok _ => False | .error e => X.xe e s') s := by
  refine codeAny_mono (G.go X.A X.stack s H args us vs Q (Ex σ) hG hr I.env0 (hb (by rw [← r.length]; exact G.ln _ _ _ _ h)) r h) fun r s' hq => ?_
  rcases r with e | fl
  · exact hx pins H s e s' I hq
  · rcases fl with _ | _ | _ | u
    · exact hq.elim
    · exact hq.elim
    · exact hq.elim
    · exact I.after hq
/-- the wish at the slots -/
theorem post_at {m : Mp} {h : CH} {H : Hp} {σ : L2.St} {Q : VK} {r : R D} (t : PostE K CA W m h H σ Q r) : PostE K CA (wxD (L2.WE W σ)) m h H [] Q r := by
  cases r with
  | ok d h' => exact t
  | ex c fs h' => exact t
  | no => exact t
theorem end_call {A : Around} {σ : L2.St} {pins : List (Addr × Obj)} {Q : VK} {u : Value} {args : List Value} {kw : List (Str × Value)} {s : Shared} (h : codeAny (model X.prog X.w) A (.call u ⟨args, kw⟩) (fun r s' => match r with | .ok (.ret u) => EP X pins σ Q u s' | .ok _ => False | .error e => X.xe e s') s) :
    wpAny (model X.prog X.w) A (call u args kw) (EP X pins σ Q) X.xe s := by
  refine wpAny_call (codeAny_mono h fun r s' hq => ?_)
  rcases r with e | fl
  · exact hq
  · rcases fl with _ | _ | _ | u <;> exact hq
theorem run_callN {pins : List (Addr × Obj)} {σ : L2.St} {H : Hp} {s : Shared} {Q : VK} {us ws : List Value} {vs zs : List V} {m : Mp} {h : CH} {ds es : List D} (G : FnG X.prog X.w X.K X.mg X.base g k f fd ps (spD X.K CA ps.length F)) (hG : g = true → X.A.guards = some []) (hr : Room k X.A) (B : KwB X.K CA fd ps n ks src) (tk : Takes X W)
    (I : Inv X pins σ H s) (r : Vals vs us) (rz : Vals zs ws) (l1 : vs.length = n) (l2 : zs.length = ks.length) (hR : HR X.K CA m h H) (rd : RpAll X.K CA m h H vs ds) (re : RpAll X.K CA m h H zs es) (hl : src.length = ps.length) (q : PostE X.K CA W m h H σ Q (F (pickD ds es src) h)) :
    wpAny (model X.prog X.w) X.A (call (.ref f) us (ks.zip ws)) (EP X pins σ Q) X.xe s := by
  obtain ⟨cs, hc, hb⟩ := B.ex
  obtain ⟨xs, h1, h2⟩ := pick_rel r rd rz re hc
  have hlen : ∀ {src : List Src}, (pickD ds es src).length = src.length := fun {src} => by
    induction src with
    | nil => rfl
    | cons a src ih => cases a <;> simp [pickD, ih]
  exact end_call (run_fnG G hG hr (fun _ => hb s us ws I.kIn (r.length.symm.trans l1) (rz.length.symm.trans l2)) (passAt tk σ) I h1 ⟨by rw [h2.length, hlen]; exact hl, m, h, _, hR, h2, post_at q⟩)
theorem sim_callN (s : SimA K CA W hs ts) (s' : SimA K CA W hk tk) : SimE K CA W (tCallN K CA W n l (fun ds es => F (pickD ds es src)) hs hk) (dCallN n l src F ts tk) := fun m h H σ ρ Q' S t =>
  s m h H σ ρ _ S (t.bind fun ds h1 m1 vs H1 s1 S1 r1 t1 => s' m1 h1 H1 σ ρ _ (S.move s1 S1) (t1.bind fun es h2 m2 zs H2 s2 S2 r2 t2 => by
    obtain ⟨⟨c1, c2⟩, t2⟩ := post_ite t2
    exact ⟨r1.length.trans c1, r2.length.trans c2, m2, h2, ds, es, S2, r1.move s2, r2, t2⟩))
theorem sim_call (s : SimA K CA W hs ts) : SimE K CA W (tCallN K CA W n 0 (fun ds _ => F ds) hs L2.tNil) (dCall n F ts) := fun m h H σ ρ Q' S t =>
  s m h H σ ρ _ S (t.bind fun ds h1 m1 vs H1 s1 S1 r1 t1 => by
    obtain ⟨c1, t1⟩ := post_ite t1
    exact ⟨r1.length.trans c1, rfl, m1, h1, ds, [], S1, r1, .nil, t1⟩)
/-- named arguments -/
structure WK (X : Cx) (K : PySem.W.Frag) (CA : Nat → Addr) (W : WX) (kws : List Keyword) (hs : TA) (ts : TDs) : Prop where
  pe : PK X kws hs
  sim : SimA K CA W hs ts
theorem wk_nil : WK X K CA W [] L2.tNil dNil := ⟨pk_nil, fun m h H σ ρ Q' S t => t.here S.hr .nil⟩
theorem wk_cons {nm : Option Str} {kpos : Pos} (h : WE X K CA W e ha ta) (h' : WK X K CA W kws hs ts) : WK X K CA W (⟨nm, e, kpos⟩ :: kws) (L2.tCons ha hs) (dCons ta ts) :=
  ⟨pk_cons h.pe h'.pe, sim_cons h.sim h'.sim⟩
/-- the positional ones alone, as they come -/
def srcP : Nat → Nat → List Src
  | _, 0 => []
  | i, n + 1 => .p i :: srcP (i + 1) n
/-- f(e, ..) -/
theorem we_call (D : Df X.prog X.w X.K X.mg X.base CA x g k ps F f fd) (hG : g = true → X.A.guards = some []) (hr : Room k X.A) (tk' : Takes X W) (h : WA X K CA W (e :: es) hs ts) (B : KwB K CA fd ps n [] src) (hl : src.length = ps.length := by rfl) (hg : Gl X x := by rfl) (hK : X.K = K := by rfl)
    (hdb : (x == ("__debug__" : Str)) = false := by decide) (he : starEach (e :: es) X.env = (false, eval e X.env) :: starEach es X.env := by rfl) (hpl : (backTo pos (starEach es X.env)).any (·.1) = false := by rfl) :
    WE X K CA W (.Call (.Name x p) (e :: es) [] pos) (tCallN K CA W n 0 (fun ds es => F (pickD ds es src)) hs L2.tNil) (dCallN n 0 src F ts dNil) := by
  subst hK
  refine ⟨⟨fun pins s σ H Q I hq => wpAny_Call_Name_kw (ld_glob I hg D.hm ?_ hdb)⟩, sim_callN h.sim fun m h H σ ρ Q' S t => t.here S.hr .nil⟩
  refine PySem.W.callWith_K (h₀ := X.base) I.ok.mod.kin D.hk (thn (h.pe.run pos pins s σ H _ I hq) fun us s1 ⟨vs, H1, I1, r, l1, l2, m, h, ds, es, hR, rd, re, q⟩ => ⟨I1.kIn, ?_⟩) he hpl
  exact run_callN (ws := []) D.G hG hr B tk' I1 r .nil l1 l2 hR rd re hl q
/-- f() -/
theorem we_call0 (D : Df X.prog X.w X.K X.mg X.base CA x g k ps F f fd) (hG : g = true → X.A.guards = some []) (hr : Room k X.A) (tk' : Takes X W) (B : KwB K CA fd ps 0 [] src) (hl : src.length = ps.length := by rfl) (hg : Gl X x := by rfl) (hK : X.K = K := by rfl)
    (hdb : (x == ("__debug__" : Str)) = false := by decide) :
    WE X K CA W (.Call (.Name x p) [] [] pos) (tCallN K CA W 0 0 (fun ds es => F (pickD ds es src)) L2.tNil L2.tNil) (dCallN 0 0 src F dNil dNil) := by
  subst hK
  refine ⟨⟨fun pins s σ H Q I hq => wpAny_Call_Name_kw (ld_glob I hg D.hm ?_ hdb)⟩, sim_callN (fun m h H σ ρ Q' S t => t.here S.hr .nil) fun m h H σ ρ Q' S t => t.here S.hr .nil⟩
  obtain ⟨l1, l2, m, h, ds, es, hR, rd, re, q⟩ := hq
  exact PySem.W.callWith_K0 I.kIn D.hk (run_callN (us := []) (ws := []) (vs := []) (zs := []) D.G hG hr B tk' I .nil .nil l1 l2 hR rd re hl q)
/-- f(k = e, ..) -/
theorem we_callK0 (D : Df X.prog X.w X.K X.mg X.base CA x g k ps F f fd) (hG : g = true → X.A.guards = some []) (hr : Room k X.A) (tk' : Takes X W) (h' : WK X K CA W kws hk tk) (B : KwB K CA fd ps 0 ks src) (hl : src.length = ps.length := by rfl) (hg : Gl X x := by rfl) (hK : X.K = K := by rfl)
    (hall : (backToKw pos (keywordEach kws X.env)).all (·.1.isSome) = true := by rfl) (hks : (backToKw pos (keywordEach kws X.env)).filterMap (·.1) = ks := by rfl) (hdb : (x == ("__debug__" : Str)) = false := by decide)
    (hpl : ((backTo pos (starEach [] X.env)).any (·.1) || (backToKw pos (keywordEach kws X.env)).any (·.1.isNone)) = false := by rfl) :
    WE X K CA W (.Call (.Name x p) [] kws pos) (tCallN K CA W 0 ks.length (fun ds es => F (pickD ds es src)) L2.tNil hk) (dCallN 0 ks.length src F dNil tk) := by
  subst hK
  refine ⟨⟨fun pins s σ H Q I hq => wpAny_Call_Name_kw (ld_glob I hg D.hm ?_ hdb)⟩, sim_callN (fun m h H σ ρ Q' S t => t.here S.hr .nil) h'.sim⟩
  refine PySem.W.callWith_KW0 (h₀ := X.base) I.ok.mod.kin D.hk hall (thn (h'.pe.run pos pins s σ H _ I hq) fun ws s1 ⟨zs, H1, I1, rz, l1, l2, m, h, ds, es, hR, rd, re, q⟩ => ⟨I1.kIn, ?_⟩) hpl
  rw [hks]
  exact run_callN (us := []) (vs := []) D.G hG hr B tk' I1 .nil rz l1 l2 hR rd re hl q
/-- f(e, .., k = e, ..) -/
theorem we_callK (D : Df X.prog X.w X.K X.mg X.base CA x g k ps F f fd) (hG : g = true → X.A.guards = some []) (hr : Room k X.A) (tk' : Takes X W) (h : WA X K CA W (e :: es) hs ts) (h' : WK X K CA W kws hk tk) (B : KwB K CA fd ps n ks src) (hl : src.length = ps.length := by rfl) (hg : Gl X x := by rfl) (hK : X.K = K := by rfl)
    (hall : (backToKw pos (keywordEach kws X.env)).all (·.1.isSome) = true := by rfl) (hks : (backToKw pos (keywordEach kws X.env)).filterMap (·.1) = ks := by rfl) (hdb : (x == ("__debug__" : Str)) = false := by decide)
    (he : starEach (e :: es) X.env = (false, eval e X.env) :: starEach es X.env := by rfl) (hpl : ((backTo pos (starEach (e :: es) X.env)).any (·.1) || (backToKw pos (keywordEach kws X.env)).any (·.1.isNone)) = false := by rfl) :
    WE X K CA W (.Call (.Name x p) (e :: es) kws pos) (tCallN K CA W n ks.length (fun ds es => F (pickD ds es src)) hs hk) (dCallN n ks.length src F ts tk) := by
  subst hK
  refine ⟨⟨fun pins s σ H Q I hq => wpAny_Call_Name_kw (ld_glob I hg D.hm ?_ hdb)⟩, sim_callN h.sim h'.sim⟩
  refine PySem.W.callWith_KW (h₀ := X.base) I.ok.mod.kin D.hk hall (thn (h.pe.run pos pins s σ H _ I hq) fun us s1 ⟨vs, H1, I1, r, q1⟩ => thn (h'.pe.run pos pins s1 σ H1 _ I1 q1) fun ws s2 ⟨zs, H2, I2, rz, l1, l2, m, h, ds, es, hR, rd, re, q⟩ => ⟨I2.kIn, ?_⟩) hpl he
  rw [hks]
  exact run_callN D.G hG hr B tk' I2 r rz l1 l2 hR rd re hl q
end
/-! ### methods -/
/-- nm is a method of the class c0 -/
structure Mtd (P : Program) (w : World) (K : PySem.W.Frag) (mg : Str → Option Value) (base : Heap) (CA : Nat → Addr) (c0 : Nat) (nm : Str) (g : Bool) (k : Nat) (ps : List Str) (F : FD) (f : Addr) (fd : FuncData) : Prop where
  G : FnG P w K mg base g k f fd ps (spD K CA ps.length F)
  cl : Cls K (CA c0)
  mt : Meth K (CA c0) nm f
def dMethN (c0 : Nat) (nm : Str) (n l : Nat) (src : List Src) (F : FD) (ta : TD) (ts tk : TDs) : TD := fun ρ h => (ta ρ h).bind fun d h => match objOf h d with
  | some (c, fs) => if c = c0 ∧ (fs.lookup nm).isNone = true then (ts ρ h).bind fun ds h => (tk ρ h).bind fun zs h => if ds.length + 1 = n ∧ zs.length = l then F (pickD (d :: ds) zs src) h else .no else .no
  | none => .no
def tMethN (K : PySem.W.Frag) (CA : Nat → Addr) (W : WX) (c0 : Nat) (nm : Str) (n l : Nat) (G : List D → List D → CH → R D) (ta : TE) (t tk : TA) : TE := fun σ H Q => ta σ H fun x H1 => ∃ a dx fs, x = .ref a ∧ H1 a = some (.ins (CA c0) dx fs) ∧ fs.lookup nm = none ∧
  t σ H1 fun vs H2 => tk σ H2 fun zs H3 => vs.length + 1 = n ∧ zs.length = l ∧ ∃ (m : Mp) (h : CH) (ds es : List D), HR K CA m h H3 ∧ RpAll K CA m h H3 (.ref a :: vs) ds ∧ RpAll K CA m h H3 zs es ∧ PostE K CA W m h H3 σ Q (G ds es h)
section
variable {X : Cx} {K : PySem.W.Frag} {CA : Nat → Addr} {W : WX} {o e : Expr} {es : List Expr} {kws : List Keyword} {pos apos p : Pos} {ha : TE} {ta : TD} {hs hk : TA} {ts tk : TDs} {x nm : Str} {g : Bool} {k n l c0 : Nat} {ps ks : List Str} {src : List Src} {F : FD} {f : Addr} {fd : FuncData}
theorem sim_methN (s0 : SimE K CA W ha ta) (s : SimA K CA W hs ts) (s' : SimA K CA W hk tk) : SimE K CA W (tMethN K CA W c0 nm n l (fun ds es => F (pickD ds es src)) ha hs hk) (dMethN c0 nm n l src F ta ts tk) := fun m h H σ ρ Q' S t =>
  s0 m h H σ ρ _ S (t.bind fun d h1 m1 v H1 s1 S1 r1 t1 => by
    split at t1
    · rename_i c fs eo
      obtain ⟨⟨ec, hl⟩, t3⟩ := post_ite t1
      subst ec
      obtain ⟨a, dx, hfs, rfl, q1, q2, q3⟩ := rp_obj S1 r1 eo
      refine ⟨a, dx, hfs, rfl, q1, look_none q2 (Option.isNone_iff_eq_none.mp hl), s m1 h1 H1 σ ρ _ (S.move s1 S1) (t3.bind fun ds h2 m2 vs H2 s2 S2 r2 t2 => s' m2 h2 H2 σ ρ _ ((S.move s1 S1).move s2 S2) (t2.bind fun es h3 m3 zs H3 s3 S3 r3 t4 => ?_))⟩
      obtain ⟨⟨c1, c2⟩, t4⟩ := post_ite t4
      exact ⟨by rw [r2.length]; exact c1, r3.length.trans c2, m3, h3, d :: ds, es, S3, .cons ((r1.move s2).move s3) (r2.move s3), r3, t4⟩
    · exact t1.elim)
abbrev MethAt (X : Cx) (o : Expr) (nm : Str) (apos pos : Pos) (es : List Expr) (kws : List Keyword) (pl : Sem Bool) : Prop := eval (.Call (.Attribute o nm apos) es kws pos) X.env = (do
      let ov ← eval o X.env
      standAt apos.atName
      let (f, first) ← holding [ov] (getMethod ov nm pl)
      callWith pos f first (backTo pos (starEach es X.env)) (backToKw pos (keywordEach kws X.env)))
/-- o.m(e, ..) -/
theorem we_meth {pl : Sem Bool} (M : Mtd X.prog X.w X.K X.mg X.base CA c0 nm g k ps F f fd) (hG : g = true → X.A.guards = some []) (hr : Room k X.A) (tk' : Takes X W) (h0 : WE X K CA W o ha ta) (h : WA X K CA W (e :: es) hs ts) (B : KwB K CA fd ps n [] src) (hl : src.length = ps.length := by rfl) (hK : X.K = K := by rfl)
    (he : starEach (e :: es) X.env = (false, eval e X.env) :: starEach es X.env := by rfl) (hpl : (backTo pos (starEach es X.env)).any (·.1) = false := by rfl) (ht : MethAt X o nm apos pos (e :: es) [] pl := by rfl) :
    WE X K CA W (.Call (.Attribute o nm apos) (e :: es) [] pos) (tMethN K CA W c0 nm n 0 (fun ds es => F (pickD ds es src)) ha hs L2.tNil) (dMethN c0 nm n 0 src F ta ts dNil) := by
  subst hK
  refine ⟨⟨fun pins s σ H Q I hq => PySem.W.methodCall_KW (pl := pl) (thn (h0.pe.run pins s σ H _ I hq) fun u s1 ⟨x, H1, I1, rx, a, dx, fs, ex, ea, ln, q⟩ => ?_) ht⟩, sim_methN h0.sim h.sim fun m h H σ ρ Q' S t => t.here S.hr .nil⟩
  subst ex
  obtain rfl : u = Value.ref a := rx
  refine getmeth_ok I1 ea M.cl M.mt ln ?_
  refine PySem.W.callWith_K (first := [.ref a]) (h₀ := X.base) I.ok.mod.kin M.mt.kp (thn (h.pe.run pos pins s1 σ H1 _ I1 q) fun us s2 ⟨vs, H2, I2, r, l1, l2, m, h, ds, es, hR, rd, re, q2⟩ => ⟨I2.kIn, ?_⟩) he hpl
  exact run_callN (us := .ref a :: us) (vs := .ref a :: vs) (ws := []) M.G hG hr B tk' I2 (.cons rfl r) .nil l1 l2 hR rd re hl q2
/-- o.m() -/
theorem we_meth0 {pl : Sem Bool} (M : Mtd X.prog X.w X.K X.mg X.base CA c0 nm g k ps F f fd) (hG : g = true → X.A.guards = some []) (hr : Room k X.A) (tk' : Takes X W) (h0 : WE X K CA W o ha ta) (B : KwB K CA fd ps 1 [] src) (hl : src.length = ps.length := by rfl) (hK : X.K = K := by rfl)
    (ht : MethAt X o nm apos pos [] [] pl := by rfl) :
    WE X K CA W (.Call (.Attribute o nm apos) [] [] pos) (tMethN K CA W c0 nm 1 0 (fun ds es => F (pickD ds es src)) ha L2.tNil L2.tNil) (dMethN c0 nm 1 0 src F ta dNil dNil) := by
  subst hK
  refine ⟨⟨fun pins s σ H Q I hq => PySem.W.methodCall_KW (pl := pl) (thn (h0.pe.run pins s σ H _ I hq) fun u s1 ⟨x, H1, I1, rx, a, dx, fs, ex, ea, ln, l1, l2, m, h, ds, es, hR, rd, re, q⟩ => ?_) ht⟩, sim_methN h0.sim (fun m h H σ ρ Q' S t => t.here S.hr .nil) fun m h H σ ρ Q' S t => t.here S.hr .nil⟩
  subst ex
  obtain rfl : u = Value.ref a := rx
  refine getmeth_ok I1 ea M.cl M.mt ln ?_
  exact PySem.W.callWith_K0 (first := [.ref a]) I1.kIn M.mt.kp (run_callN (us := [.ref a]) (vs := [.ref a]) (ws := []) (zs := []) M.G hG hr B tk' I1 (.cons rfl .nil) .nil l1 l2 hR rd re hl q)
/-- o.m(k = e, ..) -/
theorem we_methK0 {pl : Sem Bool} (M : Mtd X.prog X.w X.K X.mg X.base CA c0 nm g k ps F f fd) (hG : g = true → X.A.guards = some []) (hr : Room k X.A) (tk' : Takes X W) (h0 : WE X K CA W o ha ta) (h' : WK X K CA W kws hk tk) (B : KwB K CA fd ps 1 ks src) (hl : src.length = ps.length := by rfl) (hK : X.K = K := by rfl)
    (hall : (backToKw pos (keywordEach kws X.env)).all (·.1.isSome) = true := by rfl) (hks : (backToKw pos (keywordEach kws X.env)).filterMap (·.1) = ks := by rfl)
    (hpl : ((backTo pos (starEach [] X.env)).any (·.1) || (backToKw pos (keywordEach kws X.env)).any (·.1.isNone)) = false := by rfl) (ht : MethAt X o nm apos pos [] kws pl := by rfl) :
    WE X K CA W (.Call (.Attribute o nm apos) [] kws pos) (tMethN K CA W c0 nm 1 ks.length (fun ds es => F (pickD ds es src)) ha L2.tNil hk) (dMethN c0 nm 1 ks.length src F ta dNil tk) := by
  subst hK
  refine ⟨⟨fun pins s σ H Q I hq => PySem.W.methodCall_KW (pl := pl) (thn (h0.pe.run pins s σ H _ I hq) fun u s1 ⟨x, H1, I1, rx, a, dx, fs, ex, ea, ln, q⟩ => ?_) ht⟩, sim_methN h0.sim (fun m h H σ ρ Q' S t => t.here S.hr .nil) h'.sim⟩
  subst ex
  obtain rfl : u = Value.ref a := rx
  refine getmeth_ok I1 ea M.cl M.mt ln ?_
  refine PySem.W.callWith_KW0 (first := [.ref a]) (h₀ := X.base) I.ok.mod.kin M.mt.kp hall (thn (h'.pe.run pos pins s1 σ H1 _ I1 q) fun ws s2 ⟨zs, H2, I2, rz, l1, l2, m, h, ds, es, hR, rd, re, q2⟩ => ⟨I2.kIn, ?_⟩) hpl
  rw [hks]
  exact run_callN (us := [.ref a]) (vs := [.ref a]) M.G hG hr B tk' I2 (.cons rfl .nil) rz l1 l2 hR rd re hl q2
/-- o.m(e, .., k = e, ..) -/
theorem we_methK {pl : Sem Bool} (M : Mtd X.prog X.w X.K X.mg X.base CA c0 nm g k ps F f fd) (hG : g = true → X.A.guards = some []) (hr : Room k X.A) (tk' : Takes X W) (h0 : WE X K CA W o ha ta) (h : WA X K CA W (e :: es) hs ts) (h' : WK X K CA W kws hk tk) (B : KwB K CA fd ps n ks src) (hl : src.length = ps.length := by rfl) (hK : X.K = K := by rfl)
    (hall : (backToKw pos (keywordEach kws X.env)).all (·.1.isSome) = true := by rfl) (hks : (backToKw pos (keywordEach kws X.env)).filterMap (·.1) = ks := by rfl)
    (he : starEach (e :: es) X.env = (false, eval e X.env) :: starEach es X.env := by rfl) (hpl : ((backTo pos (starEach (e :: es) X.env)).any (·.1) || (backToKw pos (keywordEach kws X.env)).any (·.1.isNone)) = false := by rfl) (ht : MethAt X o nm apos pos (e :: es) kws pl := by rfl) :
    WE X K CA W (.Call (.Attribute o nm apos) (e :: es) kws pos) (tMethN K CA W c0 nm n ks.length (fun ds es => F (pickD ds es src)) ha hs hk) (dMethN c0 nm n ks.length src F ta ts tk) := by
  subst hK
  refine ⟨⟨fun pins s σ H Q I hq => PySem.W.methodCall_KW (pl := pl) (thn (h0.pe.run pins s σ H _ I hq) fun u s1 ⟨x, H1, I1, rx, a, dx, fs, ex, ea, ln, q⟩ => ?_) ht⟩, sim_methN h0.sim h.sim h'.sim⟩
  subst ex
  obtain rfl : u = Value.ref a := rx
  refine getmeth_ok I1 ea M.cl M.mt ln ?_
  refine PySem.W.callWith_KW (first := [.ref a]) (h₀ := X.base) I.ok.mod.kin M.mt.kp hall (thn (h.pe.run pos pins s1 σ H1 _ I1 q) fun us s2 ⟨vs, H2, I2, r, q1⟩ => thn (h'.pe.run pos pins s2 σ H2 _ I2 q1) fun ws s3 ⟨zs, H3, I3, rz, l1, l2, m, h, ds, es, hR, rd, re, q2⟩ => ⟨I3.kIn, ?_⟩) hpl he
  rw [hks]
  exact run_callN (us := .ref a :: us) (vs := .ref a :: vs) M.G hG hr B tk' I3 (.cons rfl r) rz l1 l2 hR rd re hl q2
end
/-! ### properties -/
def dProp (c0 : Nat) (F : FD) (ta : TD) : TD := fun ρ h => (ta ρ h).bind fun d h => match objOf h d with
  | some (c, _) => if c = c0 then noxF F [d] h else .no
  | none => .no
section
variable {X : Cx} {K : PySem.W.Frag} {CA : Nat → Addr} {W : WX} {o e : Expr} {pos : Pos} {ha : TE} {ta : TD} {c0 : Nat} {F : FD}
theorem we_prop (x : WE X K CA W e ha ta) (hp : PE X e ha → PE X o (tProp (CA c0) (spD K CA 1 (noxF F)) [] L2.E0 ha)) : WE X K CA W o (tProp (CA c0) (spD K CA 1 (noxF F)) [] L2.E0 ha) (dProp c0 F ta) :=
  ⟨hp x.pe, fun m h H σ ρ Q' S t => x.sim m h H σ ρ _ S (t.bind fun d h1 m1 v H1 s1 S1 r1 t1 => by
    split at t1
    · rename_i c fs eo
      obtain ⟨ec, t3⟩ := post_ite t1
      subst ec
      clear t1
      obtain ⟨a, dx, hfs, rfl, q1, q2, q3⟩ := rp_obj S1 r1 eo
      refine ⟨a, dx, hfs, rfl, q1, rfl, m1, h1, [d], S1, .cons r1 .nil, ?_⟩
      have t1 : PostE K CA W m1 h1 H1 σ Q' ((F [d] h1).calm fun d h => .ok d h) := t3
      show PostE K CA (wxD L2.E0) m1 h1 H1 [] Q' ((F [d] h1).calm fun d h => .ok d h)
      cases ef : F [d] h1 with
      | ok d' h' => rw [ef] at t1; exact t1
      | ex c fs h' => rw [ef] at t1; exact t1.elim
      | no => rw [ef] at t1; exact t1
    · exact t1.elim)⟩
end
/-- nm is a property of the class c0 -/
structure Prd (P : Program) (w : World) (K : PySem.W.Frag) (mg : Str → Option Value) (base : Heap) (CA : Nat → Addr) (c0 : Nat) (nm : Str) (k : Nat) (ps : List Str) (F : FD) : Prop where
  ex : ∃ (p g : Addr) (fd : FuncData), FnOk P w K mg base L2.CX0 k g fd ps (spD K CA 1 (noxF F)) ∧ PropOf K (CA c0) nm p g ∧ Binds K fd ps []
  cl : Cls K (CA c0)
section
variable {X : Cx} {K : PySem.W.Frag} {CA : Nat → Addr} {W : WX} {e : Expr} {pos : Pos} {ha : TE} {ta : TD} {c0 k : Nat} {F : FD} {nm : Str} {ps : List Str}
/-- e.nm, a property -/
theorem we_pr (M : Prd X.prog X.w X.K X.mg X.base CA c0 nm k ps F) (hr : Room (k + 1) X.A) (x : WE X K CA W e ha ta) (hK : X.K = K := by rfl) (hab : attributeBase e nm X.env (eval e X.env) = eval e X.env := by rfl) :
    WE X K CA W (.Attribute e nm pos) (tProp (CA c0) (spD K CA 1 (noxF F)) [] L2.E0 ha) (dProp c0 F ta) := by
  subst hK
  obtain ⟨p, g, fd, G, hp, hb⟩ := M.ex
  exact we_prop x fun a => pe_prop a M.cl hp G hr hb .nil pass0 hab
end
/-! ### makes -/
/-- the class c0, called nm, is made by its __init__ -/
structure Mkd (P : Program) (w : World) (K : PySem.W.Frag) (mg : Str → Option Value) (base : Heap) (CA : Nat → Addr) (c0 : Nat) (nm : Str) (k : Nat) (ps : List Str) (F : FD) (f : Addr) (fd : FuncData) : Prop where
  G : FnG P w K mg base false k f fd ps (spD K CA ps.length F)
  hm : mg nm = some (.ref (CA c0))
  mkd : Mk K (CA c0) f
/-- a new object: kept named, or given free (fr) -/
def dMakeN (c0 : Nat) (fr : Bool) (n l : Nat) (src : List Src) (F : FD) (ts tk : TDs) : TD := fun ρ h => (ts ρ h).bind fun ds h => (tk ρ h).bind fun zs h => if ds.length + 1 = n ∧ zs.length = l then (F (pickD (.ref h.nx :: ds) zs src) (h.new (.obj c0 []))).bind fun r h2 => match r with
  | .non => if fr = true then fz (.ref h.nx) h2 else .ok (.ref h.nx) h2
  | _ => .no
  else .no
def tMakeN (K : PySem.W.Frag) (CA : Nat → Addr) (W : WX) (c0 : Nat) (n l : Nat) (G : List D → List D → CH → R D) (t tk : TA) : TE := fun σ H Q => t σ H fun vs H1 => tk σ H1 fun zs H2 => vs.length + 1 = n ∧ zs.length = l ∧ ∀ a da, H2 a = none → H2 da = none → da ≠ a →
  ∃ (m : Mp) (h : CH) (ds es : List D), HR K CA m h (upd (upd H2 da (.own a)) a (.ins (CA c0) da [])) ∧ RpAll K CA m h (upd (upd H2 da (.own a)) a (.ins (CA c0) da [])) (.ref a :: vs) ds ∧ RpAll K CA m h (upd (upd H2 da (.own a)) a (.ins (CA c0) da [])) zs es ∧
    PostE K CA W m h (upd (upd H2 da (.own a)) a (.ins (CA c0) da [])) σ (fun v H3 => v = .non ∧ Q (.ref a) H3) (G ds es h)
section
variable {X : Cx} {K : PySem.W.Frag} {CA : Nat → Addr} {W : WX} {e : Expr} {es : List Expr} {kws : List Keyword} {pos p : Pos} {hs hk : TA} {ts tk : TDs} {x : Str} {k n l c0 : Nat} {ps ks : List Str} {src : List Src} {F : FD} {f : Addr} {fd : FuncData} {fr : Bool}
theorem sim_makeN (s : SimA K CA W hs ts) (s' : SimA K CA W hk tk) : SimE K CA W (tMakeN K CA W c0 n l (fun ds es => F (pickD ds es src)) hs hk) (dMakeN c0 fr n l src F ts tk) := fun m h H σ ρ Q' S t =>
  s m h H σ ρ _ S (t.bind fun ds h1 m1 vs H1 s1 S1 r1 t1 => s' m1 h1 H1 σ ρ _ (S.move s1 S1) (t1.bind fun es h2 m2 zs H2 s2 S2 r2 t2 => by
    obtain ⟨⟨c1, c2⟩, t2⟩ := post_ite t2
    refine ⟨by rw [r1.length]; exact c1, r2.length.trans c2, fun a da na nd ne => ?_⟩
    have gr : ∀ b u, H2 b = some u → (upd (upd H2 da (.own a)) a (.ins (CA c0) da [])) b = some u := fun b u e => by
      rw [upd_ne (ne_of_none e na), upd_ne (ne_of_none e nd)]; exact e
    have sN := stp_new (o := .obj c0 []) S2 na gr
    have SN := S2.new (o := .obj c0 []) na gr (.obj upd_same rfl .nil)
    have ra := Rp.ref (K := K) (CA := CA) (m := mpNew m2 h2 a) (h := h2.new (.obj c0 [])) (H := upd (upd H2 da (.own a)) a (.ins (CA c0) da [])) (k := h2.nx) (Nat.lt_succ_self _)
    rw [mpNew_nx] at ra
    refine ⟨mpNew m2 h2 a, h2.new (.obj c0 []), .ref h2.nx :: ds, es, SN, .cons ra ((r1.move s2).move sN), r2.move sN, ?_⟩
    show PostE K CA W _ _ _ σ _ (F (pickD (.ref h2.nx :: ds) es src) (h2.new (.obj c0 [])))
    cases ef : F (pickD (.ref h2.nx :: ds) es src) (h2.new (.obj c0 [])) with
    | no => rw [ef] at t2; exact t2.elim
    | ex c fs h' => rw [ef] at t2; exact fun m' cls dd H' s' S' xr => t2 m' cls dd H' (sN.trans s') S' xr
    | ok d h' =>
      rw [ef] at t2
      intro m' v H' s' S' rv
      have mk : m' h2.nx = a := by
        have := s'.mp h2.nx (Nat.lt_succ_self _)
        rw [mpNew_nx] at this
        exact this
      have rk : Rp K CA m' h' H' (.ref a) (.ref h2.nx) := by
        rw [← mk]
        exact .ref (Nat.lt_of_lt_of_le (Nat.lt_succ_self _) s'.nx)
      cases d with
      | non =>
        cases rv
        refine ⟨rfl, ?_⟩
        have t3 : PostE K CA W m2 h2 H2 σ Q' (if fr = true then fz (.ref h2.nx) h' else .ok (.ref h2.nx) h') := t2
        cases fr with
        | true => exact fz_post S' rk (t3.from (sN.trans s'))
        | false => exact t3 m' _ H' (sN.trans s') S' rk
      | _ => exact t2.elim))
theorem run_makeN' {pins : List (Addr × Obj)} {σ : L2.St} {H : Hp} {s : Shared} {Q : VK} {us ws : List Value} {vs zs : List V} (D : Mkd X.prog X.w X.K X.mg X.base CA c0 x k ps F f fd) (hr : Room (k + 1) X.A) (B : KwB X.K CA fd ps n ks src) (tk' : Takes X W) (hl : src.length = ps.length)
    (I : Inv X pins σ H s) (r : Vals vs us) (rz : Vals zs ws) (l1 : vs.length + 1 = n) (l2 : zs.length = ks.length)
    (q : ∀ a da, H a = none → H da = none → da ≠ a → ∃ (m : Mp) (h : CH) (ds es : List CM.D), HR X.K CA m h (upd (upd H da (.own a)) a (.ins (CA c0) da [])) ∧ RpAll X.K CA m h (upd (upd H da (.own a)) a (.ins (CA c0) da [])) (.ref a :: vs) ds ∧ RpAll X.K CA m h (upd (upd H da (.own a)) a (.ins (CA c0) da [])) zs es ∧
      PostE X.K CA W m h (upd (upd H da (.own a)) a (.ins (CA c0) da [])) σ (fun v H3 => v = .non ∧ Q (.ref a) H3) (F (pickD ds es src) h)) :
    wpAny (model X.prog X.w) X.A (call (.ref (CA c0)) us (ks.zip ws)) (EP X pins σ Q) X.xe s := by
  obtain ⟨m, h, ds, es, hR, rd, re, q⟩ := q (s.heap.objs.size + 1) s.heap.objs.size (I.hok.fresh (Nat.le_succ _)) (I.hok.fresh (Nat.le_refl _)) (Nat.ne_of_lt (Nat.lt_succ_self _))
  have I2 := Inv.made (C := CA c0) I
  have r1 : Vals (V.ref (s.heap.objs.size + 1) :: vs) (Value.ref (s.heap.objs.size + 1) :: us) := .cons rfl r
  obtain ⟨cs, hc, hb⟩ := B.ex
  obtain ⟨xs, h1, h2⟩ := pick_rel r1 rd rz re hc
  have hlen : ∀ {src : List Src}, (pickD ds es src).length = src.length := fun {src} => by
    induction src with
    | nil => rfl
    | cons a src ih => cases a <;> simp [pickD, ih]
  have n1 : (Value.ref (s.heap.objs.size + 1) :: us).length = n := by rw [← r1.length]; exact l1
  refine wpAny_call (make_map (f := f) I.kIn D.mkd.makes D.mkd.init (beq_iff_eq.mp D.mkd.fn) (codeAny_mono (D.G.go _ X.stack _ _ ⟨Value.ref (s.heap.objs.size + 1) :: us, ks.zip ws⟩ _ xs _ (L2.WE W σ) (fun z => nomatch z) (hr.make (CA c0) us (ks.zip ws))
    (I2.env0.make (CA c0) us (ks.zip ws)) (hb _ (Value.ref (s.heap.objs.size + 1) :: us) ws I2.kIn n1 (rz.length.symm.trans l2)) h1 ⟨by rw [h2.length, hlen]; exact hl, m, h, _, hR, h2, post_at q⟩) fun r s' hq' => ?_))
  rcases r with er | fl
  · exact passAt tk' σ pins _ _ er s' I2 hq'
  · rcases fl with _ | _ | _ | u
    · exact False.elim hq'
    · exact False.elim hq'
    · exact False.elim hq'
    · obtain ⟨v, H', I3, rv, ev, q3⟩ := I2.after hq'
      subst ev
      exact ⟨rv, ⟨V.ref (s.heap.objs.size + 1), H', I3, rfl, q3⟩⟩
/-- C(e, ..) -/
theorem we_make (fr : Bool) (D : Mkd X.prog X.w X.K X.mg X.base CA c0 x k ps F f fd) (hr : Room (k + 1) X.A) (tk' : Takes X W) (h : WA X K CA W (e :: es) hs ts) (B : KwB K CA fd ps n [] src) (hl : src.length = ps.length := by rfl) (hg : Gl X x := by rfl) (hK : X.K = K := by rfl)
    (hdb : (x == ("__debug__" : Str)) = false := by decide) (he : starEach (e :: es) X.env = (false, eval e X.env) :: starEach es X.env := by rfl) (hpl : (backTo pos (starEach es X.env)).any (·.1) = false := by rfl) :
    WE X K CA W (.Call (.Name x p) (e :: es) [] pos) (tMakeN K CA W c0 n 0 (fun ds es => F (pickD ds es src)) hs L2.tNil) (dMakeN c0 fr n 0 src F ts dNil) := by
  subst hK
  refine ⟨⟨fun pins s σ H Q I hq => wpAny_Call_Name_kw (ld_glob I hg D.hm ?_ hdb)⟩, sim_makeN h.sim fun m h H σ ρ Q' S t => t.here S.hr .nil⟩
  refine PySem.W.callWith_K (h₀ := X.base) I.ok.mod.kin D.mkd.kp (thn (h.pe.run pos pins s σ H _ I hq) fun us s1 ⟨vs, H1, I1, r, l1, l2, q⟩ => ⟨I1.kIn, ?_⟩) he hpl
  exact run_makeN' (ws := []) D hr B tk' hl I1 r .nil l1 l2 q
/-- C() -/
theorem we_make0 (fr : Bool) (D : Mkd X.prog X.w X.K X.mg X.base CA c0 x k ps F f fd) (hr : Room (k + 1) X.A) (tk' : Takes X W) (B : KwB K CA fd ps 1 [] src) (hl : src.length = ps.length := by rfl) (hg : Gl X x := by rfl) (hK : X.K = K := by rfl)
    (hdb : (x == ("__debug__" : Str)) = false := by decide) :
    WE X K CA W (.Call (.Name x p) [] [] pos) (tMakeN K CA W c0 1 0 (fun ds es => F (pickD ds es src)) L2.tNil L2.tNil) (dMakeN c0 fr 1 0 src F dNil dNil) := by
  subst hK
  refine ⟨⟨fun pins s σ H Q I hq => wpAny_Call_Name_kw (ld_glob I hg D.hm ?_ hdb)⟩, sim_makeN (fun m h H σ ρ Q' S t => t.here S.hr .nil) fun m h H σ ρ Q' S t => t.here S.hr .nil⟩
  obtain ⟨l1, l2, q⟩ := hq
  exact PySem.W.callWith_K0 I.kIn D.mkd.kp (run_makeN' (us := []) (ws := []) (vs := []) (zs := []) D hr B tk' hl I .nil .nil l1 l2 q)
/-- C(k = e, ..) -/
theorem we_makeK0 (fr : Bool) (D : Mkd X.prog X.w X.K X.mg X.base CA c0 x k ps F f fd) (hr : Room (k + 1) X.A) (tk' : Takes X W) (h' : WK X K CA W kws hk tk) (B : KwB K CA fd ps 1 ks src) (hl : src.length = ps.length := by rfl) (hg : Gl X x := by rfl) (hK : X.K = K := by rfl)
    (hall : (backToKw pos (keywordEach kws X.env)).all (·.1.isSome) = true := by rfl) (hks : (backToKw pos (keywordEach kws X.env)).filterMap (·.1) = ks := by rfl) (hdb : (x == ("__debug__" : Str)) = false := by decide)
    (hpl : ((backTo pos (starEach [] X.env)).any (·.1) || (backToKw pos (keywordEach kws X.env)).any (·.1.isNone)) = false := by rfl) :
    WE X K CA W (.Call (.Name x p) [] kws pos) (tMakeN K CA W c0 1 ks.length (fun ds es => F (pickD ds es src)) L2.tNil hk) (dMakeN c0 fr 1 ks.length src F dNil tk) := by
  subst hK
  refine ⟨⟨fun pins s σ H Q I hq => wpAny_Call_Name_kw (ld_glob I hg D.hm ?_ hdb)⟩, sim_makeN (fun m h H σ ρ Q' S t => t.here S.hr .nil) h'.sim⟩
  refine PySem.W.callWith_KW0 (h₀ := X.base) I.ok.mod.kin D.mkd.kp hall (thn (h'.pe.run pos pins s σ H _ I hq) fun ws s1 ⟨zs, H1, I1, rz, l1, l2, q⟩ => ⟨I1.kIn, ?_⟩) hpl
  rw [hks]
  exact run_makeN' (us := []) (vs := []) D hr B tk' hl I1 .nil rz l1 l2 q
/-- C(e, .., k = e, ..) -/
theorem we_makeK (fr : Bool) (D : Mkd X.prog X.w X.K X.mg X.base CA c0 x k ps F f fd) (hr : Room (k + 1) X.A) (tk' : Takes X W) (h : WA X K CA W (e :: es) hs ts) (h' : WK X K CA W kws hk tk) (B : KwB K CA fd ps n ks src) (hl : src.length = ps.length := by rfl) (hg : Gl X x := by rfl) (hK : X.K = K := by rfl)
    (hall : (backToKw pos (keywordEach kws X.env)).all (·.1.isSome) = true := by rfl) (hks : (backToKw pos (keywordEach kws X.env)).filterMap (·.1) = ks := by rfl) (hdb : (x == ("__debug__" : Str)) = false := by decide)
    (he : starEach (e :: es) X.env = (false, eval e X.env) :: starEach es X.env := by rfl) (hpl : ((backTo pos (starEach (e :: es) X.env)).any (·.1) || (backToKw pos (keywordEach kws X.env)).any (·.1.isNone)) = false := by rfl) :
    WE X K CA W (.Call (.Name x p) (e :: es) kws pos) (tMakeN K CA W c0 n ks.length (fun ds es => F (pickD ds es src)) hs hk) (dMakeN c0 fr n ks.length src F ts tk) := by
  subst hK
  refine ⟨⟨fun pins s σ H Q I hq => wpAny_Call_Name_kw (ld_glob I hg D.hm ?_ hdb)⟩, sim_makeN h.sim h'.sim⟩
  refine PySem.W.callWith_KW (h₀ := X.base) I.ok.mod.kin D.mkd.kp hall (thn (h.pe.run pos pins s σ H _ I hq) fun us s1 ⟨vs, H1, I1, r, q1⟩ => thn (h'.pe.run pos pins s1 σ H1 _ I1 q1) fun ws s2 ⟨zs, H2, I2, rz, l1, l2, q⟩ => ⟨I2.kIn, ?_⟩) hpl he
  rw [hks]
  exact run_makeN' D hr B tk' hl I2 r rz l1 l2 q
end
/-! ### the module's constants -/
/-- the module's name x stands for the data d, whatever happens -/
def GV (K : PySem.W.Frag) (CA : Nat → Addr) (mg : Str → Option Value) (x : Str) (d : D) : Prop := ∃ v u, mg x = some u ∧ RelV v u ∧ ∀ m h H, Rp K CA m h H v d
noncomputable def GV.v {K : PySem.W.Frag} {CA : Nat → Addr} {mg : Str → Option Value} {x : Str} {d : D} (G : GV K CA mg x d) : V := Classical.choose G
section
variable {X : Cx} {K : PySem.W.Frag} {CA : Nat → Addr} {W : WX} {x : Str} {d : D} {p : Pos} {mg : Str → Option Value}
theorem we_gv (G : GV K CA X.mg x d) (hg : Gl X x := by rfl) (hd : (x == ("__debug__" : Str)) = false := by decide) : WE X K CA W (.Name x p) (L2.tC G.v) (dC d) := by
  have h : ∃ u, X.mg x = some u ∧ RelV G.v u ∧ ∀ m h H, Rp K CA m h H G.v d := Classical.choose_spec G
  obtain ⟨u, h1, h2, h3⟩ := h
  exact ⟨pe_glob hg h1 h2 hd, fun m h H σ ρ Q' S t => t.here S.hr (h3 m h H)⟩
theorem gv_int {i : Int} {t : Tok} (h : mg x = some (.int i t)) : GV K CA mg x (.int i) := ⟨.int i, _, h, ⟨t, rfl⟩, fun _ _ _ => .int i⟩
theorem gv_cls {a : Addr} {c : Nat} (h : mg x = some (.ref a)) (e : CA c = a) : GV K CA mg x (.cls c) := ⟨.ref a, _, h, rfl, fun _ _ _ => by rw [← e]; exact .cls c⟩
/-- written values -/
inductive WrV (K : PySem.W.Frag) : Value → D → Prop
  | str (x : Str) (t : Tok) : WrV K (.str x t) (.str x)
  | int (i : Int) (t : Tok) : WrV K (.int i t) (.int i)
  | bl (b : Bool) : WrV K (.bool b) (.bl b)
  | non : WrV K .none .non
  | tup {a : Addr} {dd : Option Addr} {us : List Value} {n : Nat} {sl : Array (Option Value)} {ds : List D} : K.lookup a = some ⟨.type "tuple", dd, .seq us.toArray n, sl⟩ → Paired (WrV K) us ds → us.length ≤ sizeLine → WrV K (.ref a) (.tup ds)
end
end CM
namespace CM
open PySem PySem.Spec PyProof.Rows L2

/-! ### len -/
def fLen : FD := fun ds h => match ds with
  | [.str z] => if z.length ≤ sizeLine then .ok (.int z.length) h else .no
  | [.scr ns] => .ok (.int ns.length) h
  | [d] => match seqOf h d with
    | some xs => .ok (.int xs.length) h
    | none => match dctOf h d with
      | some kvs => .ok (.int kvs.length) h
      | none => .no
  | _ => .no
def rLenU (K : PySem.W.Frag) : List V → Hp → VK → Prop := fun xs H Q => (∃ p ys, xs = [V.ref p] ∧ (SqL K H p ys ∨ SqT K H p ys) ∧ Q (.int ys.length) H) ∨ ((∃ z, xs = [V.str z] ∧ z.length ≤ sizeLine ∧ Q (.int z.length) H) ∨ ∃ a kvs, xs = [V.ref a] ∧ Rd H a (.dK kvs) ∧ Q (.int kvs.length) H)
section
variable {X : Cx} {K : PySem.W.Frag} {CA : Nat → Addr} {W : WX}
theorem call_lenU (hK : X.K = K := by rfl) (hl : CallR X (.builtin "len") (fun xs H Q => ∃ a kvs, xs = [V.ref a] ∧ Rd H a (.dK kvs) ∧ Q (.int kvs.length) H)) : CallR X (.builtin "len") (rLenU K) := by subst hK; exact call_len_seq.or (call_len_str.or hl)
theorem sim_len : SimC K CA (rLenU K) fLen := by
  intro W σ m h H xs ds Q' S r t
  unfold fLen at t
  split at t
  · obtain ⟨l, t⟩ := post_ite t
    cases r with
    | cons r1 r2 => cases r1; cases r2; exact .inr (.inl ⟨_, rfl, l, t.here S (.int _)⟩)
  · cases r with
    | cons r1 r2 =>
      cases r2
      cases r1 with
      | scr n e => exact .inl ⟨_, _, rfl, .inl (.inl (.inr ⟨_, e⟩)), by rw [List.length_map]; exact t.here S (.int _)⟩
      | kscr e => exact .inl ⟨_, _, rfl, .inl (sl_emp e), by rw [List.length_map]; exact t.here S (.int _)⟩
  · cases r with
    | cons r1 r2 =>
      cases r2
      split at t
      · rename_i xs e
        obtain ⟨a, ys, rfl, e1, rr⟩ := rp_seq S r1 e
        exact .inl ⟨a, ys, rfl, e1, by rw [rr.length]; exact t.here S (.int _)⟩
      · split at t
        · rename_i kvs e
          obtain ⟨a, o, hk, rfl, e1, c, en, rr⟩ := rp_dct S r1 e
          refine .inr (.inr ⟨a, hk, rfl, ?_, by rw [len_of en]; exact t.here S (.int _)⟩)
          rcases core_dK c with rfl | ⟨ob, rfl⟩
          · exact .inl e1
          · exact .inr ⟨ob, e1⟩
        · exact t.elim
  · exact t.elim
end
/-! ### isinstance -/
inductive Tg where
  | b (n : String) | o (c : Nat)
  deriving DecidableEq
def tgOf (h : CH) : D → Option Tg
  | .non => some (.b "NoneType") | .bl _ => some (.b "bool") | .int _ => some (.b "int") | .str _ => some (.b "str") | .lst _ => some (.b "list") | .tup _ => some (.b "tuple") | .dct _ => some (.b "dict")
  | .obj c _ => some (.o c)
  | .scr _ => some (.b "list")
  | .ref k => match h.ob k with
    | some (.lst _) => some (.b "list")
    | some (.dct _) => some (.b "dict")
    | some (.lck _) => some (.b "dict")
    | some (.lkl _) => some (.b "list")
    | some (.obj c _) => some (.o c)
    | _ => none
  | _ => none
def clsOf : D → Option Tg
  | .ty n => some (.b n)
  | .cls c => some (.o c)
  | _ => none
def clssOf : List D → Option (List Tg)
  | [] => some []
  | d :: ds => match clsOf d, clssOf ds with
    | some t, some ts => some (t :: ts)
    | _, _ => none
def Tg.v (CA : Nat → Addr) : Tg → Value
  | .b n => .type n
  | .o c => .ref (CA c)
abbrev KT := Tg → Tg → Option Bool
/-- what the table says is so; and the own classes are plain ones -/
structure KtOk (K : PySem.W.Frag) (CA : Nat → Addr) (own : List Nat) (kt : KT) : Prop where
  one : ∀ a b r, kt a b = some r → PySem.W.kitOne K (a.v CA) (b.v CA) = some r
  ins : ∀ c, c ∈ own → Cls K (CA c) ∧ PySem.W.findIn K (.ref (CA c)) "__class__" = some (some (.builtin "object.__class__")) ∧ PySem.W.specialIn K (.builtin "object.__class__") "__get__" = some (some (.builtin "getset_descriptor.__get__")) ∧ PySem.W.takesIn K (.builtin "object.__class__") = some true ∧ PySem.W.mroIn K (CA c) (.type "object") = some true
def okTg (own : List Nat) : Tg → Bool
  | .b _ => true
  | .o c => decide (c ∈ own)
def fIsi (own : List Nat) (kt : KT) : FD := fun ds h => match ds with
  | [d, t] => match tgOf h d, clsOf t with
    | some a, some b => if okTg own a = true then (match kt a b with
      | some r => .ok (.bl r) h
      | none => .no) else .no
    | _, _ => .no
  | _ => .no
def ktAny (kt : KT) (a : Tg) : List Tg → Option Bool
  | [] => some false
  | b :: bs => match kt a b with
    | some true => some true
    | some false => ktAny kt a bs
    | none => none
def fIsT (own : List Nat) (kt : KT) : FD := fun ds h => match ds with
  | [d, .tup ts] => match tgOf h d, clssOf ts with
    | some a, some bs => if okTg own a = true then (match ktAny kt a bs with
      | some r => .ok (.bl r) h
      | none => .no) else .no
    | _, _ => .no
  | _ => .no
section
variable {X : Cx} {K : PySem.W.Frag} {CA : Nat → Addr} {W : WX} {m : Mp} {h : CH} {H : Hp} {own : List Nat} {kt : KT}
theorem rp_tg {v : V} {d : D} {a : Tg} (kk : KtOk K CA own kt) (S : HR K CA m h H) (r : Rp K CA m h H v d) (e : tgOf h d = some a) (ok : okTg own a = true) : TyX K H v (a.v CA) := by
  have io : ∀ {c : Nat} {p dx : Addr} {fs : List (Str × V)}, H p = some (.ins (CA c) dx fs) → okTg own (.o c) = true → TyX K H (.ref p) ((Tg.o c).v CA) := fun {c p dx fs} e ok => by
    obtain ⟨h1, h2, h3, h4, h5⟩ := kk.ins c (by simpa [okTg] using ok)
    exact .base (.ins e h1 h2 h3 h4 h5)
  cases r with
  | non => cases e; exact .base .non
  | bl b => cases e; exact .base (.bl b)
  | int b => cases e; exact .base (.int b)
  | str b => cases e; exact .base (.str b)
  | lst _ q _ => cases e; exact .base (.lst q)
  | tup _ q _ => cases e; exact .base (.tup q)
  | ktup q _ =>
    cases e
    rcases q with q | ⟨o, its, n, hk, hc, _⟩
    · rcases q with q | ⟨o, q⟩ <;> cases q
    · exact .kTuple hk hc
  | dct _ q c _ _ =>
    cases e
    rcases core_dK c with rfl | ⟨ob, rfl⟩
    · exact .base (.dK q)
    · exact .fDict q
  | obj _ q _ _ => cases e; exact io q ok
  | scr _ q => cases e; exact .base (.frz q)
  | kscr q =>
    cases e
    rcases q with q | ⟨o, its, n, hk, hc, _⟩
    · rcases q with q | ⟨o, q⟩ <;> cases q
    · exact .kList hk hc
  | ref l =>
    simp only [tgOf] at e
    split at e
    · rename_i q
      obtain ⟨xs, q1, _⟩ := mo_lst S q
      cases e; exact .base (.lst q1)
    · rename_i q
      obtain ⟨xs, q1, _⟩ := mo_dct S q
      cases e; exact .base (.dK q1)
    · rename_i q
      have x := (S.ob _ _ q).2
      cases x with
      | lck q1 en r => cases e; exact .fDict q1
    · rename_i q
      have x := (S.ob _ _ q).2
      cases x with
      | lkl q1 r => cases e; exact .base (.lst q1)
    · rename_i q
      obtain ⟨dx, xs, q1, _⟩ := mo_obj S q
      cases e; exact io q1 ok
    · cases e
  | ty => cases e
  | cls => cases e
theorem rp_cls {v : V} {d : D} {b : Tg} (r : Rp K CA m h H v d) (e : clsOf d = some b) : ClsV v (b.v CA) := by
  cases r with
  | ty n => cases e; exact .ty n
  | cls c => cases e; exact .own _
  | _ => cases e
theorem rp_clss {vs : List V} {ds : List D} {bs : List Tg} (r : RpAll K CA m h H vs ds) (e : clssOf ds = some bs) : Paired ClsV vs (bs.map (Tg.v CA)) := by
  induction vs generalizing ds bs with
  | nil => cases r; cases e; exact .nil
  | cons v vs ih =>
    cases r with
    | cons r1 r2 =>
      simp only [clssOf] at e
      split at e
      · rename_i t ts e1 e2
        cases e
        exact .cons (rp_cls r1 e1) (ih r2 e2)
      · cases e
theorem kt_any {a : Tg} (kk : KtOk K CA own kt) : ∀ {bs : List Tg} {r : Bool}, ktAny kt a bs = some r → PySem.W.kitAny K (a.v CA) (bs.map (Tg.v CA)) = some r
  | [], r, e => by cases e; rfl
  | b :: bs, r, e => by
    simp only [ktAny] at e
    simp only [List.map_cons, PySem.W.kitAny]
    split at e
    · rename_i q
      rw [kk.one a b _ q]
      exact e
    · rename_i q
      rw [kk.one a b _ q]
      exact kt_any kk e
    · cases e
theorem call_isiU (hK : X.K = K := by rfl) : CallR X (.builtin "isinstance") (rIsi K) := by subst hK; exact call_isi
theorem sim_isi (kk : KtOk K CA own kt) : SimC K CA (rIsi K) (fIsi own kt) := by
  intro W σ m h H xs ds Q' S r t
  unfold fIsi at t
  split at t
  · split at t
    · rename_i a b ea eb
      obtain ⟨ok, t⟩ := post_ite t
      split at t
      · rename_i r' ek
        cases r with
        | cons r1 r2 => cases r2 with
          | cons r2 r3 => cases r3; exact ⟨_, _, _, _, _, rfl, rp_cls r2 eb, rp_tg kk S r1 ea ok, kk.one _ _ _ ek, t.here S (.bl _)⟩
      · exact t.elim
    · exact t.elim
  · exact t.elim
def rIsiU (K : PySem.W.Frag) : List V → Hp → VK → Prop := fun xs H Q => rIsiT K xs H Q ∨ rIsiK K xs H Q
theorem call_isiTU (hK : X.K = K := by rfl) : CallR X (.builtin "isinstance") (rIsiU K) := by subst hK; exact call_isiT.or call_isiK
theorem sim_isT (kk : KtOk K CA own kt) : SimC K CA (rIsiU K) (fIsT own kt) := by
  intro W σ m h H xs ds Q' S r t
  unfold fIsT at t
  split at t
  · split at t
    · rename_i a bs ea eb
      obtain ⟨ok, t⟩ := post_ite t
      split at t
      · rename_i r' ek
        cases r with
        | cons r1 r2 => cases r2 with
          | cons r2 r3 =>
            cases r3
            cases r2 with
            | tup n2 e2 ra => exact .inl ⟨_, _, _, _, _, _, rfl, e2, rp_clss ra eb, rp_tg kk S r1 ea ok, kt_any kk ek, t.here S (.bl _)⟩
            | ktup hk ra =>
              have hp := rp_clss ra eb
              have ha := kt_any kk ek
              rcases hk with hk | ⟨ob, its, m2, h1, h2, h3, h4, h5⟩
              · rcases hk with hk | ⟨_, hk⟩ <;> cases hk
              · have e3 := ClsV.all hp h5
                obtain ⟨oc, od, dt, sl⟩ := ob
                simp only at h2 h3
                subst h2 h3
                refine .inr ⟨_, _, od, _, m2, sl, _, _, rfl, ?_, rp_tg kk S r1 ea ok, ha, t.here S (.bl _)⟩
                rw [h1, ← e3]
      · exact t.elim
    · exact t.elim
  · exact t.elim
end
/-! ### repr -/
/-- the text is short: a count over its parts that is easy to bound -/
def fRepr : FD := fun ds h => match ds with
  | [d] => match seqOf h d, toP h 12 d with
    | some _, some p => if p.showable = true ∧ p.depth ≤ 60 ∧ p.shown.length ≤ sizeLine then .ok (.str p.shown) h else .no
    | _, _ => .no
  | _ => .no
def rShow (K : PySem.W.Frag) : List V → Hp → VK → Prop := fun xs H Q => ∃ a p, xs = [V.ref a] ∧ Dp K H (V.ref a) p ∧ p.hasDict = false ∧ p.showable = true ∧ p.depth ≤ 60 ∧ p.shown.length ≤ sizeLine ∧ Q (.str p.shown) H
section
variable {X : Cx} {K : PySem.W.Frag} {CA : Nat → Addr} {W : WX} {m : Mp} {h : CH} {H : Hp}
theorem noDict_of {f : D → Option PyData} (ih : ∀ (d : D) (p : PyData), f d = some p → p.hasDict = false) : ∀ (ds : List D) (ps : List PyData), ds.mapM f = some ps → PyData.hasDictAll ps = false
  | [], _, e => by simp at e; subst e; rfl
  | d :: ds, _, e => by
    simp only [List.mapM_cons, Option.bind_eq_bind, Option.bind_eq_some_iff, Option.pure_def, Option.some.injEq] at e
    obtain ⟨p, e1, ps, e2, rfl⟩ := e
    simp only [PyData.hasDictAll, ih d p e1, noDict_of ih ds ps e2, Bool.or_self]
theorem toP_noDict : ∀ (n : Nat) (d : D) (p : PyData), toP h n d = some p → p.hasDict = false
  | 0, d, _, e => by cases d <;> cases e
  | n + 1, .non, _, e => by simp only [toP, Option.some.injEq] at e; subst e; rfl
  | n + 1, .bl b, _, e => by simp only [toP, Option.some.injEq] at e; subst e; rfl
  | n + 1, .int b, _, e => by simp only [toP, Option.some.injEq] at e; subst e; rfl
  | n + 1, .str b, _, e => by simp only [toP, Option.some.injEq] at e; subst e; rfl
  | n + 1, .lst ds, _, e => by
    simp only [toP, Option.map_eq_some_iff] at e
    obtain ⟨ps, e1, rfl⟩ := e
    simp only [PyData.hasDict]
    exact noDict_of (toP_noDict n) ds ps e1
  | n + 1, .tup ds, _, e => by
    simp only [toP, Option.map_eq_some_iff] at e
    obtain ⟨ps, e1, rfl⟩ := e
    simp only [PyData.hasDict]
    exact noDict_of (toP_noDict n) ds ps e1
  | n + 1, .ref k, _, e => by
    simp only [toP] at e
    split at e
    · simp only [Option.map_eq_some_iff] at e
      obtain ⟨ps, e1, rfl⟩ := e
      simp only [PyData.hasDict]
      exact noDict_of (toP_noDict n) _ ps e1
    · cases e
  | n + 1, .dct _, _, e => by simp [toP] at e
  | n + 1, .obj _ _, _, e => by simp [toP] at e
  | n + 1, .scr _, _, e => by simp [toP] at e
  | n + 1, .ty _, _, e => by simp [toP] at e
  | n + 1, .cls _, _, e => by simp [toP] at e
theorem call_show (hG : X.A.guards = some []) (hu : X.A.units + 64 < cLine) (hK : X.K = K := by rfl) : CallR X (.builtin "repr") (rShow K) := by
  subst hK
  rintro pins s σ H xs us Q I r ⟨a, p, rfl, dp, nd, sh, dep, sz, q⟩
  obtain ⟨u, rfl, rx⟩ := vals1 r
  cases (show u = Value.ref a from rx)
  obtain ⟨as, rd⟩ := Dp.reads I p (V.ref a) _ dp rfl
  exact repr_of_reads' rd sh (PyData.noDict_hsm nd) hG (by omega) (fun _ _ e => e) (fun h' u tk hk => ⟨.str p.shown, H, I.kept hk, ⟨u, rfl⟩, q⟩) sz
theorem sim_repr : SimC K CA (rShow K) fRepr := by
  intro W σ m h H xs ds Q' S r t
  unfold fRepr at t
  split at t
  · split at t
    · rename_i es p e1 e2
      obtain ⟨⟨c1, c2, c3⟩, t⟩ := post_ite t
      cases r with
      | cons r1 r2 =>
        cases r2
        obtain ⟨a, ys, rfl, _, _⟩ := rp_seq S r1 e1
        exact ⟨a, p, rfl, rp_dp S _ _ _ p r1 e2, toP_noDict _ _ p e2, c1, c2, c3, t.here S (.str _)⟩
    · exact t.elim
  · exact t.elim
/-! ### list(x), tuple(x), dict(x) -/
def fListOf (nm : Bool) : FD := fun ds h => match ds with
  | [d] => match seqOf h d with
    | some xs => mkL nm xs h
    | none => .no
  | _ => .no
def fTupOf : FD := fun ds h => match ds with
  | [.tup xs] => .ok (.tup xs) h
  | [d] => match lstOf h d with
    | some xs => .ok (.tup xs) h
    | none => .no
  | _ => .no
def fDctOf (nm : Bool) : FD := fun ds h => match ds with
  | [d] => match dctOf h d with
    | some kvs => mkD nm kvs h
    | none => .no
  | _ => .no
def rListOf (K : PySem.W.Frag) : List V → Hp → VK → Prop := fun xs H Q => ∃ p ys, xs = [V.ref p] ∧ (SqL K H p ys ∨ SqT K H p ys) ∧ ∀ l, H l = none → Q (.ref l) (upd H l (.lst ys))
def rTupOf (K : PySem.W.Frag) : List V → Hp → VK → Prop := fun xs H Q => ∃ p ys, xs = [V.ref p] ∧ ((SqL K H p ys ∧ ∀ l, H l = none → Q (.ref l) (upd H l (.tup ys))) ∨ (SqT K H p ys ∧ Q (.ref p) H))
def rDctOf : List V → Hp → VK → Prop := fun xs H Q => ∃ (a : Addr) (kvs : List (Key × V)), xs = [.ref a] ∧ Rd H a (.dK kvs) ∧ ∀ p, H p = none → Q (.ref p) (upd H p (.dK kvs))
theorem call_listOf (hK : X.K = K := by rfl) : CallR X (.type "list") (rListOf K) := by subst hK; exact call_list_of
theorem call_tupOf (hK : X.K = K := by rfl) : CallR X (.type "tuple") (rTupOf K) := by subst hK; exact call_tuple_of
theorem sim_listOf {nm : Bool} : SimC K CA (rListOf K) (fListOf nm) := by
  intro W σ m h H xs ds Q' S r t
  unfold fListOf at t
  split at t
  · split at t
    · rename_i xs e
      cases r with
      | cons r1 r2 =>
        cases r2
        obtain ⟨a, ys, rfl, e1, rr⟩ := rp_seq S r1 e
        exact ⟨a, ys, rfl, e1, fun l n => mkL_post S n rr t⟩
    · exact t.elim
  · exact t.elim
theorem sim_tupOf : SimC K CA (rTupOf K) fTupOf := by
  intro W σ m h H xs ds Q' S r t
  unfold fTupOf at t
  split at t
  · cases r with
    | cons r1 r2 =>
      cases r2
      obtain ⟨a, ys, rfl, e1, rr⟩ := rp_tup r1
      exact ⟨a, ys, rfl, .inr ⟨e1, t.here S r1⟩⟩
  · split at t
    · rename_i xs e
      cases r with
      | cons r1 r2 =>
        cases r2
        obtain ⟨a, ys, rfl, e1, rr⟩ := rp_lst S r1 e
        exact ⟨a, ys, rfl, .inl ⟨.of e1, fun l n => t.laid S n (.tup (S.fresh n) upd_same (rps_laid S n rr))⟩⟩
    · exact t.elim
  · exact t.elim
theorem sim_dctOf {nm : Bool} : SimC K CA rDctOf (fDctOf nm) := by
  intro W σ m h H xs ds Q' S r t
  unfold fDctOf at t
  split at t
  · split at t
    · rename_i kvs e
      cases r with
      | cons r1 r2 =>
        cases r2
        obtain ⟨a, o, hk, rfl, e1, c, en, rr⟩ := rp_dct S r1 e
        refine ⟨a, hk, rfl, ?_, fun p n => mkD_post S n en rr t⟩
        rcases core_dK c with rfl | ⟨ob, rfl⟩
        · exact .inl e1
        · exact .inr ⟨ob, e1⟩
    · exact t.elim
  · exact t.elim
/-! ### min, max, abs, int -/
def fMin : FD := fun ds h => match ds with
  | [.int i, .int j] => .ok (.int (if j < i then j else i)) h
  | _ => .no
def fMax : FD := fun ds h => match ds with
  | [.int i, .int j] => .ok (.int (if j > i then j else i)) h
  | _ => .no
def fAbs : FD := fun ds h => match ds with
  | [.int i] => .ok (.int (if i < 0 then -i else i)) h
  | _ => .no
def fInt : FD := fun ds h => match ds with
  | [.int i] => .ok (.int i) h
  | [.bl k] => .ok (.int (if k then 1 else 0)) h
  | _ => .no
def fNeg : F1 := fun d h => match d with
  | .int i => .ok (.int (-i)) h
  | _ => .no
def rMin : List V → Hp → VK → Prop := fun xs H Q => ∃ i j, xs = [V.int i, V.int j] ∧ Q (.int (if j < i then j else i)) H
def rMax : List V → Hp → VK → Prop := fun xs H Q => ∃ i j, xs = [V.int i, V.int j] ∧ Q (.int (if j > i then j else i)) H
def rAbs : List V → Hp → VK → Prop := fun xs H Q => ∃ i, xs = [V.int i] ∧ Q (.int (if i < 0 then -i else i)) H
def rInt : List V → Hp → VK → Prop := fun xs H Q => (∃ i, xs = [V.int i] ∧ Q (.int i) H) ∨ ∃ k, xs = [V.bl k] ∧ Q (.int (if k then 1 else 0)) H
theorem call_minU (hc : X.calm = true := by rfl) : CallR X (.builtin "min") rMin := call_min2 hc
theorem call_maxU (hc : X.calm = true := by rfl) : CallR X (.builtin "max") rMax := call_max2 hc
theorem sim_min : SimC K CA rMin fMin := by
  intro W σ m h H xs ds Q' S r t
  unfold fMin at t
  split at t
  · cases r with
    | cons r1 r2 => cases r2 with
      | cons r2 r3 => cases r1; cases r2; cases r3; exact ⟨_, _, rfl, t.here S (.int _)⟩
  · exact t.elim
theorem sim_max : SimC K CA rMax fMax := by
  intro W σ m h H xs ds Q' S r t
  unfold fMax at t
  split at t
  · cases r with
    | cons r1 r2 => cases r2 with
      | cons r2 r3 => cases r1; cases r2; cases r3; exact ⟨_, _, rfl, t.here S (.int _)⟩
  · exact t.elim
theorem sim_abs : SimC K CA rAbs fAbs := by
  intro W σ m h H xs ds Q' S r t
  unfold fAbs at t
  split at t
  · cases r with
    | cons r1 r2 => cases r1; cases r2; exact ⟨_, rfl, t.here S (.int _)⟩
  · exact t.elim
theorem sim_int : SimC K CA rInt fInt := by
  intro W σ m h H xs ds Q' S r t
  unfold fInt at t
  split at t
  · cases r with
    | cons r1 r2 => cases r1; cases r2; exact .inl ⟨_, rfl, t.here S (.int _)⟩
  · cases r with
    | cons r1 r2 => cases r1; cases r2; exact .inr ⟨_, rfl, t.here S (.int _)⟩
  · exact t.elim
end
end CM
namespace CM
open PySem PySem.Spec PyProof.Rows L2

/-! ### sorted: the one list that it can be -/
def insB {α : Type} (lt : α → α → Bool) (x : α) : List α → List α
  | [] => [x]
  | y :: r => if lt y x = true then y :: insB lt x r else x :: y :: r
def sortB {α : Type} (lt : α → α → Bool) : List α → List α
  | [] => []
  | x :: r => insB lt x (sortB lt r)
theorem insB_perm {α : Type} {lt : α → α → Bool} (x : α) : ∀ l : List α, (insB lt x l).Perm (x :: l)
  | [] => .refl _
  | y :: r => by
    unfold insB
    split
    · exact ((insB_perm x r).cons y).trans (.swap x y r)
    · exact .refl _
theorem sortB_perm {α : Type} {lt : α → α → Bool} : ∀ l : List α, (sortB lt l).Perm l
  | [] => .refl _
  | x :: r => (insB_perm x _).trans ((sortB_perm r).cons x)
theorem insB_sorted {α : Type} {lt : α → α → Bool} (asym : ∀ a b, lt a b = true → lt b a = false) (tr : ∀ a b c, lt b a = false → lt c b = false → lt c a = false) (x : α) : ∀ l : List α, l.Pairwise (fun a b => lt b a = false) → (insB lt x l).Pairwise (fun a b => lt b a = false)
  | [], _ => by simp [insB]
  | y :: r, h => by
    unfold insB
    rw [List.pairwise_cons] at h
    split
    · rename_i q
      rw [List.pairwise_cons]
      refine ⟨fun z hz => ?_, insB_sorted asym tr x r h.2⟩
      rcases List.mem_cons.mp ((insB_perm x r).mem_iff.mp hz) with rfl | hz
      · exact asym _ _ q
      · exact h.1 z hz
    · rename_i q
      rw [List.pairwise_cons]
      refine ⟨fun z hz => ?_, List.pairwise_cons.mpr h⟩
      have q' : lt y x = false := by simpa using q
      rcases List.mem_cons.mp hz with rfl | hz
      · exact q'
      · exact tr _ _ _ q' (h.1 z hz)
theorem sortB_sorted {α : Type} {lt : α → α → Bool} (asym : ∀ a b, lt a b = true → lt b a = false) (tr : ∀ a b c, lt b a = false → lt c b = false → lt c a = false) : ∀ l : List α, (sortB lt l).Pairwise (fun a b => lt b a = false)
  | [] => .nil
  | x :: r => insB_sorted asym tr x _ (sortB_sorted asym tr r)
def ltI (a b : Int) : Bool := decide (a < b)
def sortI : List Int → List Int := sortB ltI
theorem sortI_sorted (l : List Int) : (sortI l).Pairwise (· ≤ ·) := (sortB_sorted (lt := ltI) (fun a b h => by simp [ltI] at *; omega) (fun a b c h1 h2 => by simp [ltI] at *; omega) l).imp fun {a b} h => by simp [ltI] at h; exact h
theorem sortI_perm (l : List Int) : (sortI l).Perm l := sortB_perm l
theorem sortI_eq {l l' : List Int} (p : l'.Perm l) (h : l'.Pairwise (· ≤ ·)) : l' = sortI l := PySem.W.ksm_same (p.trans (sortI_perm l).symm) h (sortI_sorted l)
def ltS (a b : Str) : Bool := ltCps a.cps.toList b.cps.toList
theorem ltCps_asym : ∀ a b : List Nat, ltCps a b = true → ltCps b a = false
  | [], [], h => by cases h
  | [], _ :: _, _ => rfl
  | _ :: _, [], h => by cases h
  | a :: r, b :: t, h => by
    simp only [ltCps, Bool.or_eq_true, decide_eq_true_eq, Bool.and_eq_true, beq_iff_eq] at h
    simp only [ltCps, Bool.or_eq_false_iff, decide_eq_false_iff_not, Bool.and_eq_false_iff, beq_eq_false_iff_ne]
    rcases h with h | ⟨rfl, h⟩
    · exact ⟨by omega, .inl (by omega)⟩
    · exact ⟨by omega, .inr (ltCps_asym r t h)⟩
theorem ltCps_tr : ∀ a b c : List Nat, ltCps b a = false → ltCps c b = false → ltCps c a = false
  | [], b, c, h1, h2 => by cases c <;> rfl
  | a :: r, [], c, h1, h2 => by cases h1
  | a :: r, b :: t, [], h1, h2 => by cases h2
  | a :: r, b :: t, c :: u, h1, h2 => by
    simp only [ltCps, Bool.or_eq_false_iff, decide_eq_false_iff_not, Bool.and_eq_false_iff, beq_eq_false_iff_ne] at *
    refine ⟨by omega, ?_⟩
    by_cases q : c = a
    · right
      subst q
      have e : b = c := by omega
      subst e
      exact ltCps_tr r t u (h1.2.resolve_left (by simp)) (h2.2.resolve_left (by simp))
    · exact .inl q
theorem ltCps_tot : ∀ a b : List Nat, ltCps a b = false → ltCps b a = false → a = b
  | [], [], _, _ => rfl
  | [], _ :: _, h, _ => by cases h
  | _ :: _, [], _, h => by cases h
  | a :: r, b :: t, h1, h2 => by
    simp only [ltCps, Bool.or_eq_false_iff, decide_eq_false_iff_not, Bool.and_eq_false_iff, beq_eq_false_iff_ne] at *
    have e : a = b := by omega
    subst e
    rw [ltCps_tot r t (h1.2.resolve_left (by simp)) (h2.2.resolve_left (by simp))]
def sortS : List Str → List Str := sortB ltS
theorem str_cps {a b : Str} (h : a.cps.toList = b.cps.toList) : a = b := by
  obtain ⟨a⟩ := a
  obtain ⟨b⟩ := b
  simp only at h
  rw [Array.toList_inj.mp h]
theorem risingS_pw : ∀ (p : Str) (l : List Str), risingS p l = true → (p :: l).Pairwise (fun a b => ltS b a = false)
  | p, [], _ => by simp
  | p, x :: r, h => by
    simp only [risingS, Bool.and_eq_true, Bool.not_eq_true'] at h
    have ih := risingS_pw x r h.2
    rw [List.pairwise_cons]
    refine ⟨fun z hz => ?_, ih⟩
    rcases List.mem_cons.mp hz with rfl | hz
    · exact h.1
    · exact ltCps_tr _ _ _ h.1 ((List.pairwise_cons.mp ih).1 z hz)
theorem sortS_eq {l l' : List Str} (p : l'.Perm l) (h : sortedS l' = true) : l' = sortS l := by
  have h' : l'.Pairwise (fun a b => ltS b a = false) := by
    cases l' with
    | nil => exact .nil
    | cons x r => exact risingS_pw x r h
  exact (p.trans (sortB_perm (lt := ltS) l).symm).eq_of_pairwise (fun a b _ _ h1 h2 => str_cps (ltCps_tot _ _ h2 h1)) h' (sortB_sorted (lt := ltS) (fun a b q => ltCps_asym _ _ q) (fun a b c q1 q2 => ltCps_tr _ _ _ q1 q2) l)
theorem sortS_perm (l : List Str) : (sortS l).Perm l := sortB_perm l
def intsOf : List D → Option (List Int)
  | [] => some []
  | .int i :: r => match intsOf r with
    | some is => some (i :: is)
    | none => none
  | _ => none
def strsOf : List D → Option (List Str)
  | [] => some []
  | .str i :: r => match strsOf r with
    | some is => some (i :: is)
    | none => none
  | _ => none
def blsOf : List D → Option (List Bool)
  | [] => some []
  | .bl i :: r => match blsOf r with
    | some is => some (i :: is)
    | none => none
  | _ => none
def fSort (nm : Bool) : FD := fun ds h => match ds with
  | [d] => match lstOf h d with
    | some xs => match intsOf xs with
      | some is => mkL nm ((sortI is).map D.int) h
      | none => match strsOf xs with
        | some ss => if ss.length < 64 then mkL nm ((sortS ss).map D.str) h else .no
        | none => .no
    | none => match dctOf h d with
      | some kvs => match intsOf (kvs.map fun kv => kD kv.1) with
        | some is => if is.length < 64 then mkL nm ((sortI is).map D.int) h else .no
        | none => match strsOf (kvs.map fun kv => kD kv.1) with
          | some ss => if ss.length < 64 then mkL nm ((sortS ss).map D.str) h else .no
          | none => .no
      | none => .no
  | _ => .no
def fAllB (neg : Bool) : FD := fun ds h => match ds with
  | [d] => match lstOf h d with
    | some xs => match blsOf xs with
      | some bs => .ok (.bl (if neg then bs.any id else bs.all id)) h
      | none => .no
    | none => .no
  | _ => .no
section
variable {X : Cx} {K : PySem.W.Frag} {CA : Nat → Addr} {W : WX} {m : Mp} {h : CH} {H : Hp} {e : Expr} {pos : Pos} {ha : TE} {ta : TD}
theorem rp_ints : ∀ {ds : List D} {is : List Int} {vs : List V}, RpAll K CA m h H vs ds → intsOf ds = some is → vs = is.map V.int ∧ ds = is.map D.int
  | [], is, vs, r, e => by cases r; cases e; exact ⟨rfl, rfl⟩
  | d :: ds, is, vs, r, e => by
    cases r with
    | cons r1 r2 =>
      cases r1 with
      | int i =>
        simp only [intsOf] at e
        split at e
        · rename_i is' e'
          cases e
          obtain ⟨e1, e2⟩ := rp_ints r2 e'
          exact ⟨by rw [e1]; rfl, by rw [e2]; rfl⟩
        · cases e
      | _ => simp [intsOf] at e
theorem rp_strs : ∀ {ds : List D} {is : List Str} {vs : List V}, RpAll K CA m h H vs ds → strsOf ds = some is → vs = is.map V.str ∧ ds = is.map D.str
  | [], is, vs, r, e => by cases r; cases e; exact ⟨rfl, rfl⟩
  | d :: ds, is, vs, r, e => by
    cases r with
    | cons r1 r2 =>
      cases r1 with
      | str i =>
        simp only [strsOf] at e
        split at e
        · rename_i is' e'
          cases e
          obtain ⟨e1, e2⟩ := rp_strs r2 e'
          exact ⟨by rw [e1]; rfl, by rw [e2]; rfl⟩
        · cases e
      | _ => simp [strsOf] at e
theorem rp_bls : ∀ {ds : List D} {is : List Bool} {vs : List V}, RpAll K CA m h H vs ds → blsOf ds = some is → vs = is.map V.bl ∧ ds = is.map D.bl
  | [], is, vs, r, e => by cases r; cases e; exact ⟨rfl, rfl⟩
  | d :: ds, is, vs, r, e => by
    cases r with
    | cons r1 r2 =>
      cases r1 with
      | bl i =>
        simp only [blsOf] at e
        split at e
        · rename_i is' e'
          cases e
          obtain ⟨e1, e2⟩ := rp_bls r2 e'
          exact ⟨by rw [e1]; rfl, by rw [e2]; rfl⟩
        · cases e
      | _ => simp [blsOf] at e
theorem all_strs : ∀ ns : List Str, RpAll K CA m h H (ns.map V.str) (ns.map D.str)
  | [] => .nil
  | n :: ns => .cons (.str n) (all_strs ns)
abbrev rSrt (K : PySem.W.Frag) : List V → Hp → VK → Prop := fun xs H Q => rSortedI K xs H Q ∨ (rSortedS K xs H Q ∨ ((∃ (a : Addr) (kvs : List (Key × V)) (ks : List Int), xs = [.ref a] ∧ Rd H a (.dK kvs) ∧ kvs.map (·.1) = ks.map Sum.inl ∧ ks.length < 64 ∧
    ∀ (ys : List Int) (p : Addr), ys.Perm ks → ys.Pairwise (· ≤ ·) → H p = none → Q (.ref p) (upd H p (.lst (ys.map V.int)))) ∨ (∃ (a : Addr) (kvs : List (Key × V)) (ks : List Str), xs = [.ref a] ∧ Rd H a (.dK kvs) ∧ kvs.map (·.1) = ks.map Sum.inr ∧ ks.length < 64 ∧
    ∀ ys p, ys.Perm ks → sortedS ys = true → H p = none → Q (.ref p) (upd H p (.lst (ys.map V.str))))))
theorem call_sortU (hc : X.calm = true := by rfl) (hK : X.K = K := by rfl) : CallR X (.builtin "sorted") (rSrt K) := by subst hK; exact cr_sortedI.or (cr_sortedS.or ((call_sortedDI hc).or (call_sortedD hc)))
theorem keys_ints : ∀ {kvs : List (Key × D)} {is : List Int}, intsOf (kvs.map fun kv => kD kv.1) = some is → kvs.map (·.1) = is.map Sum.inl
  | [], is, e => by cases e; rfl
  | (k, d) :: kvs, is, e => by
    cases k with
    | inl i =>
      simp only [List.map_cons, kD, intsOf] at e
      split at e
      · rename_i is' e'
        cases e
        rw [List.map_cons, List.map_cons, keys_ints e']
      · cases e
    | inr x => simp [kD, intsOf] at e
theorem keys_strs : ∀ {kvs : List (Key × D)} {is : List Str}, strsOf (kvs.map fun kv => kD kv.1) = some is → kvs.map (·.1) = is.map Sum.inr
  | [], is, e => by cases e; rfl
  | (k, d) :: kvs, is, e => by
    cases k with
    | inr i =>
      simp only [List.map_cons, kD, strsOf] at e
      split at e
      · rename_i is' e'
        cases e
        rw [List.map_cons, List.map_cons, keys_strs e']
      · cases e
    | inl x => simp [kD, strsOf] at e
theorem sim_sort {nm : Bool} : SimC K CA (rSrt K) (fSort nm) := by
  intro W σ m h H xs ds Q' S r t
  unfold fSort at t
  split at t
  · cases r with
    | cons r1 r2 =>
      cases r2
      split at t
      · rename_i xs e
        obtain ⟨a, ys, rfl, e1, rr⟩ := rp_lst S r1 e
        split at t
        · rename_i is ei
          obtain ⟨q1, q2⟩ := rp_ints rr ei
          subst q1
          exact .inl ⟨a, is, rfl, .of e1, fun ns' p h1 h2 n => by rw [sortI_eq h1 h2]; exact mkL_post S n (all_ints _) t⟩
        · split at t
          · rename_i ss es
            obtain ⟨l, t⟩ := post_ite t
            obtain ⟨q1, q2⟩ := rp_strs rr es
            subst q1
            exact .inr (.inl ⟨a, ss, rfl, .of e1, l, fun ns' p h1 h2 n => by rw [sortS_eq h1 h2]; exact mkL_post S n (all_strs _) t⟩)
          · exact t.elim
      · split at t
        · rename_i kvs ek
          obtain ⟨a, o, hk, rfl, e1, c, en, rr⟩ := rp_dct S r1 ek
          have rd : Rd H a (.dK hk) := by
            rcases core_dK c with rfl | ⟨ob, rfl⟩
            · exact .inl e1
            · exact .inr ⟨ob, e1⟩
          split at t
          · rename_i is ei
            obtain ⟨l, t⟩ := post_ite t
            exact .inr (.inr (.inl ⟨a, hk, is, rfl, rd, en.trans (keys_ints ei), l, fun ys p h1 h2 n => by rw [sortI_eq h1 h2]; exact mkL_post S n (all_ints _) t⟩))
          · split at t
            · rename_i ss es
              obtain ⟨l, t⟩ := post_ite t
              exact .inr (.inr (.inr ⟨a, hk, ss, rfl, rd, en.trans (keys_strs es), l, fun ys p h1 h2 n => by rw [sortS_eq h1 h2]; exact mkL_post S n (all_strs _) t⟩))
            · exact t.elim
        · exact t.elim
  · exact t.elim
theorem call_allU (hc : X.calm = true := by rfl) (hK : X.K = K := by rfl) : CallR X (.builtin "all") (rAll K) := by subst hK; exact cr_all hc
theorem call_anyU (hc : X.calm = true := by rfl) (hK : X.K = K := by rfl) : CallR X (.builtin "any") (rAny K) := by subst hK; exact cr_any hc
theorem sim_all : SimC K CA (rAll K) (fAllB false) := by
  intro W σ m h H xs ds Q' S r t
  unfold fAllB at t
  split at t
  · split at t
    · rename_i xs e
      split at t
      · rename_i bs eb
        cases r with
        | cons r1 r2 =>
          cases r2
          obtain ⟨a, ys, rfl, e1, rr⟩ := rp_lst S r1 e
          obtain ⟨q1, q2⟩ := rp_bls rr eb
          subst q1
          exact ⟨a, bs, rfl, .of e1, t.here S (.bl _)⟩
      · exact t.elim
    · exact t.elim
  · exact t.elim
theorem sim_any : SimC K CA (rAny K) (fAllB true) := by
  intro W σ m h H xs ds Q' S r t
  unfold fAllB at t
  split at t
  · split at t
    · rename_i xs e
      split at t
      · rename_i bs eb
        cases r with
        | cons r1 r2 =>
          cases r2
          obtain ⟨a, ys, rfl, e1, rr⟩ := rp_lst S r1 e
          obtain ⟨q1, q2⟩ := rp_bls rr eb
          subst q1
          exact ⟨a, bs, rfl, .of e1, t.here S (.bl _)⟩
      · exact t.elim
    · exact t.elim
  · exact t.elim
/-! ### - e -/
theorem we_neg (x : WE X K CA W e ha ta) : WE X K CA W (.UnaryOp .USub e pos) (tUn (rU fun i => .int (-i)) ha) (dUn fNeg ta) :=
  ⟨pe_un un_neg x.pe, fun m h H σ ρ Q' S t => x.sim m h H σ ρ _ S (t.bind fun d h1 m1 v H1 s1 S1 r1 t1 => by
    unfold fNeg at t1
    split at t1
    · cases r1; exact ⟨_, rfl, t1.here S1 (.int _)⟩
    · exact t1.elim)⟩
end
/-! ### the end of a law -/
def LawF (F : FD) : Prop := ∀ ns : List Int, ns.length ≤ 63 → ∃ h, F [.scr ns] CH.emp = .ok (.bl true) h
theorem law_end {P : Program} {w : World} {K : PySem.W.Frag} {CA : Nat → Addr} {mg mb : Str → Option Value} {k : Nat} {fa a : Addr} {fd : FuncData} {sh : Shared} {vs : List Value} {ns : List Int} {F : FD} (kin : K.In sh.heap) (gl : sh.heap.Ns mainGlobals mg) (bl : sh.heap.Ns builtinsNs mb)
    (blt : ∀ x : Str, x ≠ "__name__" → mb x = bootBuiltins x) (nl : sh.heap.NoLimit) (gens : sh.gens = #[]) (ha : sh.heap.get? a = some { cls := .type "list", data := .seq vs.toArray }) (hi : IntsAre vs ns) (hl : ns.length ≤ 63) (hr : Room k callerA) (hF : LawF F)
    (G : ∀ base : Heap, K.In base → base.Ns mainGlobals mg → FnG P w K mg base true k fa fd ["_law_script"] (spD K CA 1 F)) (bind : ∀ (s : Shared) (u : Value), BindsTo s fd ⟨[u], []⟩ [("_law_script", u)]) :
    codeAny (model P w) callerA (.call (.ref fa) ⟨[.ref a], []⟩) (fun r s' => r = .ok (.ret (.bool true)) ∧ OldK sh.heap s'.heap ∧ s'.os = sh.os ∧ AllBare s'.gens) sh := by
  have rv := vals_ints hi
  have hv := hi.length
  have m0 : Mp := ⟨fun _ => 0, []⟩
  suffices main : ∀ H : Hp, (∀ b, H b = none ∨ (b = a ∧ ∃ o xs, H b = some (.frz o (.lst xs)))) → Rp K CA ⟨fun _ => 0, []⟩ CH.emp H (.ref a) (.scr ns) → HOk P w H sh.heap → (H a ≠ none → K.lookup a = none) →
      codeAny (model P w) callerA (.call (.ref fa) ⟨[.ref a], []⟩) (fun r s' => r = .ok (.ret (.bool true)) ∧ OldK sh.heap s'.heap ∧ s'.os = sh.os ∧ AllBare s'.gens) sh by
    have nlive : ∀ b, ¬ Live ⟨fun _ => 0, []⟩ CH.emp b := fun b z => by
      rcases z with ⟨k, o, e, _⟩ | z
      · cases e
      · cases z
    cases hk : K.lookup a with
    | some o =>
      have e := kin a o hk
      rw [ha] at e
      cases e
      refine main (fun _ => none) (fun _ => .inl rfl) (.kscr (.inr ⟨_, vs.toArray, _, hk, rfl, rfl, rfl, ?_, by simpa using rv⟩)) (fun b u z => ?_) fun z => absurd rfl z
      · rw [List.size_toArray, hv]
        exact Nat.le_trans hl (by decide)
      · cases (show (none : Option HO) = some u from z)
    | none =>
      refine main (fun b => if b = a then some (.frz { cls := .type "list", data := .seq vs.toArray } (.lst (ns.map V.int))) else none) (fun b => ?_) (.scr (nlive a) (if_pos rfl)) (fun b u z => ?_) fun _ => hk
      · by_cases h : b = a
        · exact .inr ⟨h, _, _, if_pos h⟩
        · exact .inl (if_neg h)
      · by_cases h : b = a
        · cases (if_pos h).symm.trans z
          subst h
          exact ⟨ha, by rw [List.length_map]; exact Nat.le_trans hl (by decide), vs, _, rv, ha⟩
        · cases (if_neg h).symm.trans z
  intro H only rp hok hK
  have offA : ∀ {b : Addr} {o : Obj}, sh.heap.get? b = some o → (b = a → H a = none) → (hidT sh.heap H).get? b = some o := fun {b o} e n => hidT_get e (by
    rcases only b with h | ⟨h, _⟩
    · exact h
    · subst h; exact n rfl)
  have noDict : ∀ {b : Addr} {o : Obj} {es : Array DictEntry} {ep : Nat}, sh.heap.get? b = some o → o.data = .dict es ep → b = a → H a = none := fun {b o es ep} e d z => by
    subst z
    rw [ha] at e
    cases e
    cases (show Data.seq vs.toArray _ = Data.dict es ep from d)
  have ns' : ∀ {b : Addr} {m : Str → Option Value}, sh.heap.Ns b m → (hidT sh.heap H).Ns b m := fun {b m} ⟨o, es, ep, e, d, r⟩ => ⟨o, es, ep, offA e (noDict e d), d, r⟩
  have kb : K.In (hidT sh.heap H) := fun b o e => offA (kin b o e) fun z => by
    subst z
    by_cases h : H b = none
    · exact h
    · rw [hK h] at e; cases e
  have env : Env0 P w K mg (hidT sh.heap H) callerA [] sh H := ⟨rfl, ⟨kb, ns' gl, ⟨mb, ns' bl, blt⟩, nl.imp fun mc h => ⟨ns' h.1, h.2⟩⟩, fun b o e => of_hidT e, Nat.le_of_eq (hidT_size _ _), trivial, fun b hb => absurd hb List.not_mem_nil, hok, .of_eq gens⟩
  have hR : HR K CA ⟨fun _ => 0, []⟩ CH.emp H := ⟨fun k o e => (nomatch e), fun k j o u e => (nomatch e), fun k o e => (nomatch e), fun a l => (nomatch l)⟩
  obtain ⟨hf, eF⟩ := hF ns hl
  refine codeAny_mono ((G _ kb (ns' gl)).go callerA [] sh H ⟨[.ref a], []⟩ [.ref a] [.ref a] (fun v _ => v = .bl true) (fun _ _ _ => False) (fun _ => rfl) hr env (bind sh (.ref a)) (.cons rfl .nil) ⟨rfl, ⟨fun _ => 0, []⟩, CH.emp, [.scr ns], hR, .cons rp .nil, by
    rw [eF]
    intro m' v H' s S r
    cases r
    rfl⟩) fun r s' h => ?_
  rcases r with e | fl
  · obtain ⟨_, _, _, _, _, _, _, _, _, _, _, _, z⟩ := h
    exact z.elim
  · rcases fl with _ | _ | _ | u
    · exact False.elim h
    · exact False.elim h
    · exact False.elim h
    · obtain ⟨v, H2, os, bare, un, hok2, r2, q⟩ := h
      obtain rfl : v = .bl true := q
      obtain rfl : u = Value.bool true := r2
      refine ⟨rfl, OldK.of_keep fun b o e => ?_, os, bare⟩
      rcases only b with z | ⟨_, ob, xs, z⟩
      · exact un.keep b o e z (fun y => absurd y List.not_mem_nil) (by simp)
      · obtain ⟨e1, _⟩ := hok b _ z
        obtain ⟨e2, _⟩ := hok2 b _ (un.frzs b ob _ z)
        rw [e] at e1
        cases e1
        exact e2
theorem walkG {l : PySem.W.OpenLaw} {k : Nat} {q : Program} {loose : List Str} {XP : (Str → Option Value) → Heap → Prop} {YP : World → Heap → Prop} {d : DefRec} {K : Params → PySem.W.Frag} {F : FD} (hF : LawF F) (hn : l.most = some 63) (hdf : d.params.defaults = []) (hr : Room k callerA)
    (hY : ∀ (w : World) (h : Heap), YP w h → (K w.params).In h)
    (G0 : ∀ (w : World) (mg : Str → Option Value) (fa : Addr) (h : Heap), (K w.params).In h → h.Ns mainGlobals mg → mg d.name = some (.ref fa) → ∃ (fd : FuncData) (CA : Nat → Addr), (∀ (s : Shared) (u : Value), BindsTo s fd ⟨[u], []⟩ [("_law_script", u)]) ∧
      ∀ base : Heap, (K w.params).In base → base.Ns mainGlobals mg → FnG l.prog w (K w.params) mg base true k fa fd ["_law_script"] (spD (K w.params) CA 1 F)) : PySem.W.WalkO q loose XP YP l.row.toRowW d [] (fun f vs => PySem.call f vs) := by
  refine Att.attach_call hn hdf fun w s0 s1 mg mb fa o pm cd doc a vs ns G Y _ _ _ hm ha hi hl gens => ?_
  obtain ⟨fd, CA, bd, G1⟩ := G0 w mg fa _ (hY w _ Y) G.T.g hm
  exact law_end (hY w _ Y) G.T.g G.T.b G.T.builtins G.T.nolimit gens ha hi hl hr hF G1 bd
end CM
namespace CM
open PySem PySem.Spec PyProof.Rows L2

theorem boot_lenU : bootBuiltins "len" = some (.builtin "len") := by rfl
theorem boot_isinstanceU : bootBuiltins "isinstance" = some (.builtin "isinstance") := by rfl
theorem boot_minU : bootBuiltins "min" = some (.builtin "min") := by rfl
theorem boot_maxU : bootBuiltins "max" = some (.builtin "max") := by rfl
theorem boot_absU : bootBuiltins "abs" = some (.builtin "abs") := by rfl
theorem boot_reprU : bootBuiltins "repr" = some (.builtin "repr") := by rfl
theorem boot_allU : bootBuiltins "all" = some (.builtin "all") := by rfl
theorem boot_anyU : bootBuiltins "any" = some (.builtin "any") := by rfl
theorem boot_sortedU : bootBuiltins "sorted" = some (.builtin "sorted") := by rfl
theorem boot_intU : bootBuiltins "int" = some (.type "int") := by rfl
theorem boot_boolU : bootBuiltins "bool" = some (.type "bool") := by rfl
theorem boot_strU : bootBuiltins "str" = some (.type "str") := by rfl
theorem boot_tupleU : bootBuiltins "tuple" = some (.type "tuple") := by rfl
theorem boot_listU : bootBuiltins "list" = some (.type "list") := by rfl
theorem boot_dictU : bootBuiltins "dict" = some (.type "dict") := by rfl
theorem call_lenRd {X : Cx} : CallR X (.builtin "len") (fun xs H Q => ∃ a kvs, xs = [V.ref a] ∧ Rd H a (.dK kvs) ∧ Q (.int kvs.length) H) := by
  rintro pins s σ H xs us Q I r ⟨a, kvs, rfl, rd, q⟩
  obtain ⟨u, rfl, ru⟩ := vals1 r
  cases ru
  exact d_len I rd fun t s2 I2 => ⟨V.int kvs.length, H, I2, ⟨t, rfl⟩, q⟩
section
variable {P : Program} {w : World} {K : PySem.W.Frag} {mg : Str → Option Value} {base : Heap} {CA : Nat → Addr}
/-- how a def without positional defaults binds, at the function's data -/
theorem KwB.fn {nm qual : Str} {st : Stmt} {f : Addr} {fd : FuncData} {ps : List Str} {n : Nat} {ks : List Str} {src : List Src} (T : Fun K nm qual st f fd) (hc : consts src = [])
    (h : ∀ (kV doc pm : Value) (an : Option Addr) (cdv ct : Value) (us ws : List Value), us.length = n → ws.length = ks.length → bindArgs (PySem.W.fnOf nm qual (defArgs st) (defBody st) (defScope st) .none kV doc pm an cdv ct) ⟨us, ks.zip ws⟩ = pure (ps.zip (pickL us ws src []))) : KwB K CA fd ps n ks src := by
  obtain ⟨c1, o1, k1, d1, p1, a1, v1, t1, s1, rfl, _, _⟩ := T.ex
  exact .of hc fun us ws h1 h2 => h _ _ _ _ _ _ us ws h1 h2
/-- written values, as data -/
theorem WrV.rel : ∀ {u : Value} {d : D}, WrV K u d → ∃ v, RelV v u ∧ ∀ m h H, Rp K CA m h H v d := fun {u d} w => by
  refine WrV.rec (motive_1 := fun u d _ => ∃ v, RelV v u ∧ ∀ m h H, Rp K CA m h H v d) (motive_2 := fun us ds _ => ∃ vs, Vals vs us ∧ ∀ m h H, RpAll K CA m h H vs ds) ?_ ?_ ?_ ?_ ?_ ?_ ?_ w
  · exact fun x t => ⟨.str x, ⟨t, rfl⟩, fun _ _ _ => .str x⟩
  · exact fun x t => ⟨.int x, ⟨t, rfl⟩, fun _ _ _ => .int x⟩
  · exact fun b => ⟨.bl b, rfl, fun _ _ _ => .bl b⟩
  · exact ⟨.non, rfl, fun _ _ _ => .non⟩
  · intro a dd us n sl ds hk _ hl ⟨vs, h1, h2⟩
    exact ⟨.ref a, rfl, fun m h H => .ktup (.inr ⟨_, us.toArray, n, hk, rfl, rfl, by rw [List.size_toArray]; exact hl, by simpa using h1⟩) (h2 m h H)⟩
  · exact ⟨[], .nil, fun _ _ _ => .nil⟩
  · intro u d us ds _ _ ⟨v, h1, h2⟩ ⟨vs, h3, h4⟩
    exact ⟨v :: vs, .cons h1 h3, fun m h H => .cons (h2 m h H) (h4 m h H)⟩
theorem gv_wr {x : Str} {u : Value} {d : D} (h : mg x = some u) (w : WrV K u d) : GV K CA mg x d := by
  obtain ⟨v, h1, h2⟩ := w.rel (CA := CA)
  exact ⟨v, u, h, h1, h2⟩
end
/-! ### isinstance of built-in types -/
def tys : List String := ["NoneType", "bool", "int", "str", "list", "tuple", "dict"]
def ktB : KT := fun a b => match a, b with
  | .b a, .b b => if a ∈ tys ∧ b ∈ tys then some (a == b || (a == "bool" && b == "int")) else none
  | _, _ => none
theorem kitB_tys : ∀ a, a ∈ tys → ∀ b, b ∈ tys → kitB a b = some (a == b || (a == "bool" && b == "int")) := by decide +kernel
theorem ktB_ok {K : PySem.W.Frag} {CA : Nat → Addr} : KtOk K CA [] ktB := by
  refine ⟨fun a b r e => ?_, fun c hc => (nomatch hc)⟩
  cases a with
  | b a => cases b with
    | b b =>
      simp only [ktB] at e
      by_cases c : a ∈ tys ∧ b ∈ tys
      · rw [if_pos c] at e
        rw [← e]
        exact kit_ty (kitB_tys a c.1 b c.2)
      · rw [if_neg c] at e; cases e
    | o c => cases e
  | o c => cases e
end CM
/-! == and != of instances whose class has its own == -/
namespace CM
open PySem PySem.Spec PyProof.Rows L2

/-- the two classes' say: the own == at c0, whose reading is F; no exception leaves it -/
def fOwn (c0 : Nat) (nf : Tg → Bool) (own : List Nat) (neg : Bool) (F : FD) : F2 := fun a b h => match objOf h a, tgOf h b with
  | some (c, _), some t => if c = c0 ∧ nf t = true ∧ okTg own t = true then (F [a, b] h).calm fun r h2 => match r with
    | .bl k => .ok (.bl (k != neg)) h2
    | _ => .no
    else .no
  | _, _ => .no
/-- what stands in the written part -/
structure OwnE (P : Program) (w : World) (K : PySem.W.Frag) (mg : Str → Option Value) (base : Heap) (CA : Nat → Addr) (c0 : Nat) (nf : Tg → Bool) (k : Nat) (ps : List Str) (F : FD) (f : Addr) (fd : FuncData) : Prop where
  G : FnG P w K mg base false k f fd ps (spD K CA 2 F)
  at_ : PySem.W.findIn K (.ref (CA c0)) "__eq__" = some (some (.ref f))
  ne : PySem.W.findIn K (.ref (CA c0)) "__ne__" = some (some (.builtin "object.__ne__"))
  fn : PySem.W.isFn K (.ref f) = true
  ob : PySem.W.mroIn K (CA c0) (.type "object") = some true
  nf : ∀ t, nf t = true → PySem.W.notFirst K (CA c0) (t.v CA) = true
  bd : Binds K fd ps []
section
open PySem.W
variable {prog : Program} {w : World} {A : Around} {E : Value → Shared → Prop} {s : Shared} {K : Frag} {x C f : Addr} {ox : Obj} {od : Option Obj} {b : Value}
/-- x != b by object.__ne__, which asks the own == -/
theorem ne_try {Q : Option Value → Shared → Prop} (hu : A.units + 1 < cLine) (X : K.In s.heap) (I : InstAt s.heap x ox C od) (hn : findIn K (.ref C) "__ne__" = some (some (.builtin "object.__ne__"))) (he : findIn K (.ref C) "__eq__" = some (some (.ref f))) (hf : isFn K (.ref f) = true)
    (hm : mroIn K C (.type "object") = some true) (h : wpAny (model prog w) A.in1 (call (.ref f) [.ref x, b]) (fun v s' => ∃ k, v = .bool k ∧ Q (some (.bool (!k))) s') E s) :
    wpAny (model prog w) A (tryCompare (.ref x) "__ne__" b) Q E s := by
  have FB := PySem.F.cmp_object
  have sub : Looks (model prog w) s.heap (isInstance (.ref x) (.type "object")) true := I.type.andThen (looks_mroIn X hm)
  have inner : wpAny (model prog w) A (call (.builtin "object.__ne__") [.ref x, b]) (fun v s' => ∃ k, v = .bool k ∧ Q (some (.bool k)) s') E s := by
    refine wpAny_call (codeAny_call_builtin FB.ne.plain PySem.F.cmpEntry_ne (@check_slot (model prog w) _ _ s "object.__ne__" "object" "__ne__" (.ref x) [b] [] _ PySem.F.cmpKind_ne PySem.F.cmpSplit_ne sub (PySem.F.cmpArgs_ne (.ref x) b) ?_))
    have body : ∀ {Qf : Fin → Shared → Prop}, wpAny (model prog w) A.in1 (call (.ref f) [.ref x, b]) (fun v s' => ∃ k, v = .bool k ∧ Qf (.done (.ret (.bool (!k)))) s') E s → wpAny (model prog w) A.in1 (Builtin.«object.__ne__» ⟨[.ref x, b], []⟩) Qf E s := by
      intro Qf hc
      unfold Builtin.«object.__ne__»
      repeat (first
        | with_reducible refine wpAny_cRoomFor hu ?_
        | (refine wpAny_bind (m := callSpecialIfBound? (.ref x) (Str.ofString "__eq__") [b])
            (ifBound_K X I he hf (wpAny_mono hc (fun r s' hr => by
              obtain ⟨k, rfl, hq⟩ := hr
              repeat (first | exact hq | exact wpAny_pure hq | exact wpAny_truthy_bool hq | (refine wpAny_bind (m := truthy (.bool _)) (wpAny_truthy_bool ?_)) | wp_step)) fun _ _ e => e)))
        | wp_step)
    exact body (wpAny_mono h (fun v s' ⟨k, e, q⟩ => ⟨k, e, ⟨!k, rfl, q⟩⟩) fun _ _ e => e)
  unfold tryCompare
  have fin : wpAny (model prog w) A (call (.builtin "object.__ne__") ([.ref x] ++ [b]) >>= fun v => pure (some v)) (fun r s' => ∃ k, r = some (.bool k) ∧ Q (some (.bool k)) s') E s :=
    wpAny_bind (wpAny_mono inner (fun v s' ⟨k, e, q⟩ => wpAny_pure ⟨k, by rw [e], q⟩) fun _ _ e => e)
  refine wpAny_bind ?_
  show wpAny _ _ (callSpecialIfBound? (.ref x) "__ne__" [b]) _ _ _
  simp only [callSpecialIfBound?, bindSpecialIfBound?]
  refine wpAny_holding (wpAny_bind (wpAny_bind (wpAny_bind (I.type.here ((looks_findIn X hn).here ?_)))))
  refine wpAny_bind (wpAny_askSetting (wpAny_ite ?_))
  rw [FB.ne.bind]
  split
  · refine wpAny_bind (wpAny_pure (wpAny_pure ?_))
    refine wpAny_mono fin (fun r s' ⟨k, e, q⟩ => ?_) fun _ _ e => e
    subst e
    exact wpAny_pure q
  · refine wpAny_tryCatch (wpAny_bind (wpAny_pure (wpAny_pure ?_)))
    refine wpAny_mono fin (fun r s' ⟨k, e, q⟩ => ?_) fun _ _ e => e
    subst e
    exact wpAny_pure q
theorem ne_K {tb : Value} {Q : Value → Shared → Prop} (hu : A.units + 1 < cLine) (X : K.In s.heap) (I : InstAt s.heap x ox C od) (hb : Looks (model prog w) s.heap (typeOf b) tb) (hn : notFirst K C tb = true)
    (hne : findIn K (.ref C) "__ne__" = some (some (.builtin "object.__ne__"))) (he : findIn K (.ref C) "__eq__" = some (some (.ref f))) (hf : isFn K (.ref f) = true) (hm : mroIn K C (.type "object") = some true)
    (h : wpAny (model prog w) A.in1 (call (.ref f) [.ref x, b]) (fun v s' => ∃ k, v = .bool k ∧ Q (.bool (!k)) s') E s) : wpAny (model prog w) A (richCompare .NotEq (.ref x) b) Q E s := by
  have one : wpAny (model prog w) A (tryCompare (.ref x) (cmpInfo .NotEq).2.1 b) (fun r s' => ∃ v, r = some v ∧ Q v s') E s :=
    ne_try (Q := fun r s' => ∃ v, r = some v ∧ Q v s') hu X I hne he hf hm (wpAny_mono h (fun v s' ⟨k, e, q⟩ => ⟨k, e, _, rfl, q⟩) fun _ _ e => e)
  unfold richCompare
  simp only [oneThing_ref]
  refine wpAny_holding (wpAny_bind (wpAny_cRoomFor (Nat.lt_of_succ_lt hu) ?_))
  refine wpAny_bind (I.type.here (wpAny_bind (hb.here ?_)))
  split
  · rename_i q
    have e : subIn K tb (.ref C) = some false := by
      rcases Bool.or_eq_true_iff.mp hn with e | e
      · rw [beq_iff_eq.mp e] at q; simp at q
      · exact beq_iff_eq.mp e
    refine wpAny_bind ((looks_subIn X e).here ?_)
    simp only [Bool.false_eq_true, if_false]
    refine wpAny_bind (wpAny_mono one (fun r s' z => ?_) fun _ _ e => e)
    obtain ⟨v, rfl, hq⟩ := z
    exact wpAny_pure hq
  · refine wpAny_bind (wpAny_pure ?_)
    simp only [Bool.false_eq_true, if_false]
    refine wpAny_bind (wpAny_mono one (fun r s' z => ?_) fun _ _ e => e)
    obtain ⟨v, rfl, hq⟩ := z
    exact wpAny_pure hq
end
/-- the reading at the heap -/
def rOwn (K : PySem.W.Frag) (CA : Nat → Addr) (c0 : Nat) (nf : Tg → Bool) (neg : Bool) (F : FD) : R2 := fun x y H Q => ∃ a dx fs t, x = .ref a ∧ H a = some (.ins (CA c0) dx fs) ∧ TyX K H y (Tg.v CA t) ∧ nf t = true ∧
  ∃ (m : Mp) (h : CH) (d1 d2 : D), HR K CA m h H ∧ RpAll K CA m h H [x, y] [d1, d2] ∧ PostE K CA (wxD L2.E0) m h H [] (fun v H2 => ∃ k, v = .bl k ∧ Q (.bl (k != neg)) H2) (noxF F [d1, d2] h)
section
variable {X : Cx} {K : PySem.W.Frag} {CA : Nat → Addr} {W : WX} {c0 k : Nat} {nf : Tg → Bool} {own : List Nat} {kt : KT} {F : FD} {f : Addr} {fd : FuncData} {ps : List Str} {neg : Bool}
theorem post_nox {E : XK} {m : Mp} {h : CH} {H : Hp} {σ : L2.St} {Q : VK} {r : R D} (t : PostE K CA W m h H σ Q (r.calm fun d h => .ok d h)) : PostE K CA (wxD E) m h H [] Q r := by
  cases r with
  | ok d h' => exact t
  | ex c fs h' => exact t.elim
  | no => exact t.elim
theorem sim_own (kk : KtOk K CA own kt) : SimR K CA (rOwn K CA c0 nf neg F) (fOwn c0 nf own neg F) := by
  intro W σ m h H x y dx dy Q' S rx ry t
  unfold fOwn at t
  split at t
  · rename_i c fs tg e1 e2
    obtain ⟨⟨ec, hn, ok⟩, t2⟩ := post_ite t
    clear t
    subst ec
    obtain ⟨a, da, hf, rfl, q1, _, _⟩ := rp_obj S rx e1
    refine ⟨a, da, hf, tg, rfl, q1, rp_tg kk S ry e2 ok, hn, m, h, dx, dy, S, .cons rx (.cons ry .nil), ?_⟩
    cases ef : F [dx, dy] h with
    | no => rw [ef] at t2; exact t2.elim
    | ex c fs h' => rw [ef] at t2; exact t2.elim
    | ok d h' =>
      rw [ef] at t2
      show PostE K CA (wxD L2.E0) m h H [] _ ((F [dx, dy] h).calm fun d h => .ok d h)
      rw [ef]
      intro m' v H' s' S' rv
      cases d with
      | bl k =>
        cases rv
        exact ⟨k, rfl, t2 m' _ H' s' S' (.bl _)⟩
      | _ => exact t2.elim
  · exact t.elim
theorem op_ownEq (O : OwnE X.prog X.w X.K X.mg X.base CA c0 nf k ps F f fd) (hr : Room (k + 1) X.A) (hl : ps.length = 2) (hK : X.K = K := by rfl) : OpR X (compareOp .Eq) (rOwn K CA c0 nf false F) := by
  subst hK
  intro pins s σ H x y v u Q I rx ry h
  obtain ⟨a, dx, fs, t, rfl, ha, ty, hn, m, ch, d1, d2, hR, rr, q⟩ := h
  obtain rfl : v = Value.ref a := rx
  obtain ⟨mA, J, _⟩ := ins_get I.hok ha
  obtain ⟨od, J, _⟩ := J.look
  obtain ⟨P, kx, hP, _⟩ := kit_of I ry ty
  obtain ⟨mf, hF⟩ := I.fr
  show wpAny _ _ (richCompare .Eq (Value.ref a) u) _ _ _
  refine PySem.W.cmp_K (op := .Eq) (tb := Tg.v CA t) (by have := hr.un; omega) hF I.ok.mod.kin J (kx.ty _ _ I.kIn hP) (O.nf t hn) O.at_ O.fn ?_
  have r2 : Vals [V.ref a, y] [Value.ref a, u] := .cons rfl (.cons ry .nil)
  have bd := O.bd s [.ref a, u] I.kIn (by rw [hl]; rfl)
  rw [List.append_nil] at bd
  refine wpAny_call (codeAny_mono (O.G.go X.A X.stack s H ⟨[.ref a, u], []⟩ [.ref a, u] [.ref a, y] _ L2.E0 (fun z => nomatch z) (hr.mono (Nat.le_succ _)) I.env0 bd r2 ⟨rfl, m, ch, [d1, d2], hR, rr, post_nox q⟩) fun r s' hq => ?_)
  rcases r with er | fl
  · obtain ⟨_, _, _, _, _, _, _, _, _, _, _, _, z⟩ := hq
    exact z.elim
  · rcases fl with _ | _ | _ | z
    · exact False.elim hq
    · exact False.elim hq
    · exact False.elim hq
    · obtain ⟨v', H', I3, rv, b, ev, q3⟩ := I.after hq
      subst ev
      cases rv
      cases b
      · exact ⟨.bl false, H', I3, rfl, q3⟩
      · exact ⟨.bl true, H', I3, rfl, q3⟩
theorem op_ownNe (O : OwnE X.prog X.w X.K X.mg X.base CA c0 nf k ps F f fd) (hr : Room (k + 1) X.A) (hl : ps.length = 2) (hK : X.K = K := by rfl) : OpR X (compareOp .NotEq) (rOwn K CA c0 nf true F) := by
  subst hK
  intro pins s σ H x y v u Q I rx ry h
  obtain ⟨a, dx, fs, t, rfl, ha, ty, hn, m, ch, d1, d2, hR, rr, q⟩ := h
  obtain rfl : v = Value.ref a := rx
  obtain ⟨mA, J, _⟩ := ins_get I.hok ha
  obtain ⟨od, J, _⟩ := J.look
  obtain ⟨P, kx, hP, _⟩ := kit_of I ry ty
  obtain ⟨mf, hF⟩ := I.fr
  show wpAny _ _ (richCompare .NotEq (Value.ref a) u) _ _ _
  refine ne_K (by have := hr.un; omega) I.kIn J (kx.ty _ _ I.kIn hP) (O.nf t hn) O.ne O.at_ O.fn O.ob ?_
  have r2 : Vals [V.ref a, y] [Value.ref a, u] := .cons rfl (.cons ry .nil)
  have bd := O.bd s [.ref a, u] I.kIn (by rw [hl]; rfl)
  rw [List.append_nil] at bd
  refine wpAny_call (codeAny_mono (O.G.go X.A.in1 X.stack s H ⟨[.ref a, u], []⟩ [.ref a, u] [.ref a, y] _ L2.E0 (fun z => nomatch z) hr.in1 I.env0.in1 bd r2 ⟨rfl, m, ch, [d1, d2], hR, rr, post_nox q⟩) fun r s' hq => ?_)
  rcases r with er | fl
  · obtain ⟨_, _, _, _, _, _, _, _, _, _, _, _, z⟩ := hq
    exact z.elim
  · rcases fl with _ | _ | _ | z
    · exact False.elim hq
    · exact False.elim hq
    · exact False.elim hq
    · obtain ⟨v', H', I3, rv, b, ev, q3⟩ := I.after hq
      subst ev
      cases rv
      refine ⟨b, rfl, ?_⟩
      cases b
      · exact ⟨.bl true, H', I3, rfl, q3⟩
      · exact ⟨.bl false, H', I3, rfl, q3⟩
end
end CM
/-! len(set(texts)), sorted(set(ints)) -/
namespace CM
open PySem PySem.Spec PyProof.Rows L2

/-- an empty set as set.__new__ lays it -/
abbrev eSet (w : World) : Obj := { cls := .type "set", dict := none, data := .set #[] 0 (.fresh 0 0 (!w.params.followText "set-order")) }
/-- the different ones, as they are met -/
def ded (l : List Str) : List Str := l.foldl (fun acc x => if x ∈ acc then acc else acc ++ [x]) []
theorem ded_snoc (l : List Str) (x : Str) : ded (l ++ [x]) = if x ∈ ded l then ded l else ded l ++ [x] := by
  unfold ded
  rw [List.foldl_append]
  rfl
theorem mem_ded (l : List Str) : ∀ x, x ∈ ded l ↔ x ∈ l := by
  intro x
  have key : ∀ (l acc : List Str), x ∈ l.foldl (fun acc x => if x ∈ acc then acc else acc ++ [x]) acc ↔ x ∈ acc ∨ x ∈ l := by
    intro l
    induction l with
    | nil => intro acc; simp
    | cons y l ih =>
      intro acc
      rw [List.foldl_cons, ih]
      split
      · rename_i h
        constructor
        · rintro (a | a)
          · exact .inl a
          · exact .inr (List.mem_cons_of_mem _ a)
        · rintro (a | a)
          · exact .inl a
          · rcases List.mem_cons.mp a with e | e
            · subst e; exact .inl h
            · exact .inr e
      · rw [List.mem_append, List.mem_singleton, List.mem_cons, or_assoc]
  have := key l []
  simpa [ded] using this
theorem ded_le (l : List Str) : (ded l).length ≤ l.length := by
  have key : ∀ (l acc : List Str), (l.foldl (fun acc x => if x ∈ acc then acc else acc ++ [x]) acc).length ≤ acc.length + l.length := by
    intro l
    induction l with
    | nil => intro acc; simp
    | cons y l ih =>
      intro acc
      rw [List.foldl_cons]
      refine Nat.le_trans (ih _) ?_
      split <;> simp <;> omega
  have := key l []
  simpa [ded] using this
section
variable {P : Program} {w : World} {A : Around} {R : Result → Shared → Prop} {I : Addr} {fp wr : List Addr} {G : Array GenState → Array GenState → Prop} {n : Nat} {Pv : Nat → Value → Prop} {St : Nat → Shared → Prop}
/-- the texts are added one by one -/
theorem fill_texts (Wk : WalksS P w A.in1 I fp wr G n Pv St) (D : Addr) (nf : D ∉ fp) (zs : List Str) (nz : n = zs.length) (room : zs.length + 1 < scanBound) (vals : ∀ i v, Pv i v → ∃ k t, zs[i]? = some k ∧ v = .str k t) :
    ∀ (k i : Nat) (s : Shared), n - i = k → i ≤ n → St i s → s.heap.SetOf (PySem.strKind P w) D (fun z => decide (z ∈ ded (zs.take i))) (ded (zs.take i)).length →
      (∀ s', Moved (D :: wr) G s s' → s'.heap.SetOf (PySem.strKind P w) D (fun z => decide (z ∈ ded zs)) (ded zs).length → R (.ok (.ret .none)) s') →
      codeAny (model P w) A (.builtin "set.update.loop" ⟨[.ref D, .ref I], []⟩) R s := by
  have nw : D ∉ wr := fun h => nf (Wk.sub _ h)
  have up1 : ∀ b ∈ wr, b ∈ D :: wr := fun b h => List.mem_cons_of_mem _ h
  intro k
  induction k with
  | zero =>
    intro i s hk li st hS fin
    obtain rfl : i = n := by omega
    refine codeAny_builtin PyProof.Rows.F.entry_set_update_loop ?_
    rw [Around.under_plainId PyProof.Rows.F.plain_set_update_loop _]
    show wpAny _ A.in1 (pyNext (.ref I) >>= _) _ _ s
    refine wpAny_bind (Wk.done s _ _ st fun s2 mv => ?_)
    show wpAny _ A.in1 (ret Value.none) _ _ s2
    rw [List.take_of_length_le (show zs.length ≤ i by omega)] at hS
    obtain ⟨o, es, ep, tb, ho, more⟩ := hS
    exact wpAny_pure (fin s2 (mv.mono up1) ⟨o, es, ep, tb, mv.heap D _ nw ho, more⟩)
  | succ k ih =>
    intro i s hk li st hS fin
    have lt : i < n := by omega
    refine codeAny_builtin PyProof.Rows.F.entry_set_update_loop ?_
    rw [Around.under_plainId PyProof.Rows.F.plain_set_update_loop _]
    show wpAny _ A.in1 (pyNext (.ref I) >>= _) _ _ s
    refine wpAny_bind (Wk.item i s _ _ lt st fun v s2 hv st2 mv => ?_)
    obtain ⟨z, t, ez, rfl⟩ := vals i v hv
    have hS2 : s2.heap.SetOf (PySem.strKind P w) D (fun z => decide (z ∈ ded (zs.take i))) (ded (zs.take i)).length := by
      obtain ⟨o, es, ep, tb, ho, more⟩ := hS
      exact ⟨o, es, ep, tb, mv.heap D _ nw ho, more⟩
    show wpAny _ A.in1 (holding [Value.str z t] (setAdd D (.str z t)) >>= _) _ _ s2
    refine wpAny_bind (wpAny_holding ?_)
    unfold setAdd
    refine wpAny_holding ?_
    refine wpAny_bind ((PySem.strKind P w).pyHash (k := z) (strKind_is _ _ _ _) ?_)
    have small : (ded (zs.take i)).length ≤ zs.length := Nat.le_trans (ded_le _) (by rw [List.length_take]; omega)
    refine wpAny_setAddHashed_of (knd := PySem.strKind P w) (s := { s2 with toks := s2.toks + 1 }) (strKind_is _ _ _ _) rfl hS2 (by omega) fun h3 sb hS3 => ?_
    have e1 : zs.take (i + 1) = zs.take i ++ [z] := by rw [List.take_add_one, ez]; rfl
    have hS4 : h3.SetOf (PySem.strKind P w) D (fun z => decide (z ∈ ded (zs.take (i + 1)))) (ded (zs.take (i + 1))).length := by
      refine SetOf_congr hS3 (fun y => ?_) ?_
      · rw [e1, ded_snoc]
        by_cases c : z ∈ ded (zs.take i)
        · rw [if_pos c]
          by_cases d : y = z
          · subst d; simp [c]
          · simp [d]
        · rw [if_neg c]
          simp [List.mem_append]
      · rw [e1, ded_snoc]
        by_cases c : z ∈ ded (zs.take i) <;> simp [c]
    refine wpAny_pure ⟨plainId_quiet PyProof.Rows.F.plain_set_update_loop _, ih (i + 1) _ (by omega) lt (Wk.frame _ s2 _ _ st2 (Nat.le_succ _) fun b hb o e => ?_) hS4 fun s5 mv5 hS5 => ?_⟩
    · exact (sb.2 b (fun z => nf (z ▸ hb))).trans e
    · exact fin s5 (Moved.trans Wk.gtrans ((mv.mono up1).then_heap (Nat.le_succ _) fun b o hb e => (sb.2 b (fun z => hb (z ▸ List.mem_cons_self))).trans e) mv5) hS5
end
section
variable {P : Program} {w : World} {A : Around} {E : Value → Shared → Prop} {s : Shared}
/-- set(x), x a list: whatever the filling makes sure of -/
theorem set_by_list {l : Addr} {its : Array Value} {Post : Heap → Prop} {Q : Value → Shared → Prop} (calm : A.handled = none) (hl : s.heap.IsList l its)
    (fill : ∀ (R : Result → Shared → Prop) (I : Addr) (St : Nat → Shared → Prop) (s1 : Shared), s.heap.objs.size ∉ [I, l] → WalksS P w A.in1.in1.in1 I [I, l] [I] (fun a b => b = a) its.size (fun i v => its[i]? = some v) St → St 0 s1 →
      s1.heap.get? s.heap.objs.size = some (eSet w) → (∀ s2, Moved [s.heap.objs.size, I] (fun a b => b = a) s1 s2 → Post s2.heap → R (.ok (.ret .none)) s2) → codeAny (model P w) A.in1.in1 (.builtin "set.update.loop" ⟨[.ref s.heap.objs.size, .ref I], []⟩) R s1)
    (done : ∀ (h2 : Heap) (tk : Nat), Post h2 → (∀ b o, s.heap.get? b = some o → h2.get? b = some o) → Q (.ref s.heap.objs.size) { s with heap := h2, toks := tk }) :
    wpAny (model P w) A (call (.type "set") [.ref l]) Q E s := by
  obtain ⟨_, _, f_mro⟩ := PySem.F.called_set.mro
  have f_made := PySem.F.called_set.made
  have f_sub := PySem.F.called_set.sub
  refine wpAny_call (codeAny_of_tree ?_)
  show wpAny _ _ (callAny (.type "set") _) _ _ _
  refine wpAny_pure ⟨Code.quiet_builtin _ (by decide +kernel), codeAny_builtin PySem.F.entry_type_call ?_⟩
  rw [Around.under_plain (weight_type_call_type "set" [.ref l] []) rfl]
  have f_1 := PySem.F.called_set.notType
  have f_2 := PySem.F.called_set.canCreate
  have f_3 := PySem.F.typeCall_set_1 (.ref l)
  repeat any_goals (first | assumption | wp_step)

  refine codeAny_mono (code_set_led1 (.ref l) (E := E) (Q₁ := fun ob s1 => ob = .ref s.heap.objs.size ∧ s1 = { s with heap := s.heap.push (eSet w) }) ⟨rfl, rfl⟩) fun r s1 hr => ?_
  rcases r with e | fl
  · exact hr
  · rcases fl with _ | _ | _ | ob
    · exact hr.elim
    · exact hr.elim
    · exact hr.elim
    · obtain ⟨rfl, rfl⟩ := hr
      have atS : (s.heap.push (eSet w)).get? s.heap.objs.size = some (eSet w) := Heap.get?_push_size _ rfl
      have tyS : Shared.TypeIs { s with heap := s.heap.push (eSet w) } (.ref s.heap.objs.size) "set" := ⟨_, atS, rfl⟩
      have f_4 := PySem.F.called_set.init.lookup
      have f_5 := PySem.F.called_set.init.bind (.ref s.heap.objs.size)
      repeat any_goals (first | assumption | wp_step)

      refine codeAny_mono (codeAny_call_builtin (R := wants (fun r s2 => r = .none ∧ ∃ h2 tk, s2 = { s with heap := h2, toks := tk } ∧ Post h2 ∧ (∀ b o, s.heap.get? b = some o → h2.get? b = some o)) E)
        PySem.F.called_set.init.plain PySem.F.entry_set_init (check_set_init_1 tyS ?_)) fun r2 s2 hr2 => ?_
      · obtain ⟨ol, look, ec, nl, ed⟩ := hl
        obtain ⟨oc, od, oda, osl⟩ := ol
        dsimp only at ec ed
        subst ec ed
        have look2 : (s.heap.push (eSet w)).get? l = some { cls := .type "list", dict := od, data := .seq its nl, slots := osl } := Heap.get?_push_of_some _ look
        have f_6 := PySem.F.sub_list_set
        have f_7 := PySem.F.sub_list_frozenset
        have f_8 : (Value.type "list" == Value.type "dict") = false := by decide
        have is2 : (s.heap.push (eSet w)).IsList l its := ⟨_, look2, rfl, nl, rfl⟩
        unfold Builtin.«set.__init__» noKeywords Builtin.Frozenset.updateFrom
        generalize ePI : pyIter = PI
        wp_walk
        subst ePI
        refine wpAny_pyIter_list is2 ?_
        refine wpAny_bind (wpAny_runValue ?_)
        have lts : l < s.heap.objs.size := Heap.lt_size look
        have calm3 : A.in1.in1.in1.handled = none := by simp [calm]
        have sz : (s.heap.push (eSet w)).objs.size = s.heap.objs.size + 1 := Heap.size_push ..
        have neI : l ≠ (s.heap.push (eSet w)).objs.size := by rw [sz]; exact Nat.ne_of_lt (Nat.lt_succ_of_lt lts)
        have nin : s.heap.objs.size ∉ [(s.heap.push (eSet w)).objs.size, l] := by
          rw [sz]
          intro z
          rcases List.mem_cons.mp z with z | z
          · exact absurd z (Nat.ne_of_lt (Nat.lt_succ_self _))
          · exact absurd (List.mem_singleton.mp z) (Nat.ne_of_gt lts)
        refine fill _ _ _ _ nin ((Walks.list calm3 _ l neI its).toS) ⟨⟨_, Heap.get?_push_size _ rfl, rfl, rfl⟩, is2.push _⟩ (Heap.get?_push_of_some _ atS) fun s3 mv p3 => ?_
        obtain ⟨h3, g3, d3, tk3, os3⟩ := s3
        obtain rfl : g3 = s.gens := mv.gens
        obtain rfl : d3 = s.drawn := mv.drawn
        obtain rfl : os3 = s.os := mv.os
        show wpAny _ _ _ _ _ _
        refine wpAny_pure ?_
        show wpAny _ _ (ret Value.none) _ _ _
        refine wpAny_pure ⟨rfl, h3, tk3, rfl, p3, fun b o e => ?_⟩
        have ltb := Heap.lt_size e
        refine mv.heap b o (fun z => ?_) (Heap.get?_push_of_some _ (Heap.get?_push_of_some _ e))
        rcases List.mem_cons.mp z with z | z
        · exact absurd z (Nat.ne_of_lt ltb)
        · exact absurd (List.mem_singleton.mp z) (by rw [sz]; exact Nat.ne_of_lt (Nat.lt_succ_of_lt ltb))
      · rcases r2 with e | fl2
        · exact hr2
        · rcases fl2 with _ | _ | _ | u
          · exact hr2.elim
          · exact hr2.elim
          · exact hr2.elim
          · obtain ⟨rfl, h2, tk, rfl, p2, k2⟩ := hr2
            repeat any_goals (first | assumption | wp_step)
            exact done _ _ p2 k2
/-- set(x), x a tuple: whatever the filling makes sure of -/
theorem set_by_tuple {l : Addr} {its : Array Value} {Post : Heap → Prop} {Q : Value → Shared → Prop} (calm : A.handled = none) (hl : s.heap.IsTuple l its)
    (fill : ∀ (R : Result → Shared → Prop) (I : Addr) (St : Nat → Shared → Prop) (s1 : Shared), s.heap.objs.size ∉ [I, l] → WalksS P w A.in1.in1.in1 I [I, l] [I] (fun a b => b = a) its.size (fun i v => its[i]? = some v) St → St 0 s1 →
      s1.heap.get? s.heap.objs.size = some (eSet w) → (∀ s2, Moved [s.heap.objs.size, I] (fun a b => b = a) s1 s2 → Post s2.heap → R (.ok (.ret .none)) s2) → codeAny (model P w) A.in1.in1 (.builtin "set.update.loop" ⟨[.ref s.heap.objs.size, .ref I], []⟩) R s1)
    (done : ∀ (h2 : Heap) (tk : Nat), Post h2 → (∀ b o, s.heap.get? b = some o → h2.get? b = some o) → Q (.ref s.heap.objs.size) { s with heap := h2, toks := tk }) :
    wpAny (model P w) A (call (.type "set") [.ref l]) Q E s := by
  obtain ⟨_, _, f_mro⟩ := PySem.F.called_set.mro
  have f_made := PySem.F.called_set.made
  have f_sub := PySem.F.called_set.sub
  refine wpAny_call (codeAny_of_tree ?_)
  show wpAny _ _ (callAny (.type "set") _) _ _ _
  refine wpAny_pure ⟨Code.quiet_builtin _ (by decide +kernel), codeAny_builtin PySem.F.entry_type_call ?_⟩
  rw [Around.under_plain (weight_type_call_type "set" [.ref l] []) rfl]
  have f_1 := PySem.F.called_set.notType
  have f_2 := PySem.F.called_set.canCreate
  have f_3 := PySem.F.typeCall_set_1 (.ref l)
  repeat any_goals (first | assumption | wp_step)

  refine codeAny_mono (code_set_led1 (.ref l) (E := E) (Q₁ := fun ob s1 => ob = .ref s.heap.objs.size ∧ s1 = { s with heap := s.heap.push (eSet w) }) ⟨rfl, rfl⟩) fun r s1 hr => ?_
  rcases r with e | fl
  · exact hr
  · rcases fl with _ | _ | _ | ob
    · exact hr.elim
    · exact hr.elim
    · exact hr.elim
    · obtain ⟨rfl, rfl⟩ := hr
      have atS : (s.heap.push (eSet w)).get? s.heap.objs.size = some (eSet w) := Heap.get?_push_size _ rfl
      have tyS : Shared.TypeIs { s with heap := s.heap.push (eSet w) } (.ref s.heap.objs.size) "set" := ⟨_, atS, rfl⟩
      have f_4 := PySem.F.called_set.init.lookup
      have f_5 := PySem.F.called_set.init.bind (.ref s.heap.objs.size)
      repeat any_goals (first | assumption | wp_step)

      refine codeAny_mono (codeAny_call_builtin (R := wants (fun r s2 => r = .none ∧ ∃ h2 tk, s2 = { s with heap := h2, toks := tk } ∧ Post h2 ∧ (∀ b o, s.heap.get? b = some o → h2.get? b = some o)) E)
        PySem.F.called_set.init.plain PySem.F.entry_set_init (check_set_init_1 tyS ?_)) fun r2 s2 hr2 => ?_
      · obtain ⟨ol, look, ec, nl, ed⟩ := hl
        obtain ⟨oc, od, oda, osl⟩ := ol
        dsimp only at ec ed
        subst ec ed
        have look2 : (s.heap.push (eSet w)).get? l = some { cls := .type "tuple", dict := od, data := .seq its nl, slots := osl } := Heap.get?_push_of_some _ look
        have f_6 := PySem.F.sub_tuple_set
        have f_7 := PySem.F.sub_tuple_frozenset
        have f_8 : (Value.type "tuple" == Value.type "dict") = false := by decide
        have is2 : (s.heap.push (eSet w)).IsTuple l its := ⟨_, look2, rfl, nl, rfl⟩
        unfold Builtin.«set.__init__» noKeywords Builtin.Frozenset.updateFrom
        generalize ePI : pyIter = PI
        wp_walk
        subst ePI
        refine wpAny_pyIter_tuple is2 ?_
        refine wpAny_bind (wpAny_runValue ?_)
        have lts : l < s.heap.objs.size := Heap.lt_size look
        have calm3 : A.in1.in1.in1.handled = none := by simp [calm]
        have sz : (s.heap.push (eSet w)).objs.size = s.heap.objs.size + 1 := Heap.size_push ..
        have neI : l ≠ (s.heap.push (eSet w)).objs.size := by rw [sz]; exact Nat.ne_of_lt (Nat.lt_succ_of_lt lts)
        have nin : s.heap.objs.size ∉ [(s.heap.push (eSet w)).objs.size, l] := by
          rw [sz]
          intro z
          rcases List.mem_cons.mp z with z | z
          · exact absurd z (Nat.ne_of_lt (Nat.lt_succ_self _))
          · exact absurd (List.mem_singleton.mp z) (Nat.ne_of_gt lts)
        refine fill _ _ _ _ nin ((Walks.tuple calm3 _ l neI its).toS) ⟨⟨_, Heap.get?_push_size _ rfl, rfl, rfl⟩, is2.push _⟩ (Heap.get?_push_of_some _ atS) fun s3 mv p3 => ?_
        obtain ⟨h3, g3, d3, tk3, os3⟩ := s3
        obtain rfl : g3 = s.gens := mv.gens
        obtain rfl : d3 = s.drawn := mv.drawn
        obtain rfl : os3 = s.os := mv.os
        show wpAny _ _ _ _ _ _
        refine wpAny_pure ?_
        show wpAny _ _ (ret Value.none) _ _ _
        refine wpAny_pure ⟨rfl, h3, tk3, rfl, p3, fun b o e => ?_⟩
        have ltb := Heap.lt_size e
        refine mv.heap b o (fun z => ?_) (Heap.get?_push_of_some _ (Heap.get?_push_of_some _ e))
        rcases List.mem_cons.mp z with z | z
        · exact absurd z (Nat.ne_of_lt ltb)
        · exact absurd (List.mem_singleton.mp z) (by rw [sz]; exact Nat.ne_of_lt (Nat.lt_succ_of_lt ltb))
      · rcases r2 with e | fl2
        · exact hr2
        · rcases fl2 with _ | _ | _ | u
          · exact hr2.elim
          · exact hr2.elim
          · exact hr2.elim
          · obtain ⟨rfl, h2, tk, rfl, p2, k2⟩ := hr2
            repeat any_goals (first | assumption | wp_step)
            exact done _ _ p2 k2
end
end CM

namespace CM
open PySem PySem.Spec PyProof.Rows L2

/-! ### sorted of a list or a tuple, below 64 -/
def rSortQ (K : PySem.W.Frag) : List V → Hp → VK → Prop := fun xs H Q => ∃ a ys, xs = [V.ref a] ∧ (SqL K H a ys ∨ SqT K H a ys) ∧
  ((∃ ns : List Int, ys = ns.map V.int ∧ ns.length < 64 ∧ ∀ (l : List Int) (p : Addr), l.Perm ns → l.Pairwise (· ≤ ·) → H p = none → Q (.ref p) (upd H p (.lst (l.map V.int)))) ∨
    (∃ ss : List Str, ys = ss.map V.str ∧ ss.length < 64 ∧ ∀ (l : List Str) (p : Addr), l.Perm ss → sortedS l = true → H p = none → Q (.ref p) (upd H p (.lst (l.map V.str)))))
section
variable {X : Cx} {K : PySem.W.Frag} {CA : Nat → Addr}
theorem cr_sortQ (hK : X.K = K := by rfl) : CallR X (.builtin "sorted") (rSortQ K) := by
  subst hK
  intro pins s σ H vs us Q I r hq
  obtain ⟨a, ys, rfl, hs, hq⟩ := hq
  rw [Vals.ref1 r]
  obtain ⟨T, o, its, n, hT, ho, hc, hd, rv, hz⟩ : ∃ (T : String) (o : Obj) (its : List Value) (n : Nat), (T = "list" ∨ T = "tuple") ∧ s.heap.get? a = some o ∧ o.cls = .type T ∧ o.data = .seq its.toArray n ∧ Vals ys its ∧ its.length ≤ sizeLine := by
    rcases hs with hs | hs
    · obtain ⟨its, rv, pl, hz⟩ := I.list hs
      obtain ⟨o, ho, hc, n, hd⟩ := pl.isList
      exact ⟨"list", o, its, n, .inl rfl, ho, hc, hd, rv, by rw [← rv.length]; exact hz⟩
    · obtain ⟨its, rv, pl, hz⟩ := I.tuple hs
      obtain ⟨o, ho, hc, n, hd⟩ := pl
      exact ⟨"tuple", o, its, n, .inr rfl, ho, hc, hd, rv, by rw [← rv.length]; exact hz⟩
  refine Calls.call_function_entry PyProof.Rows.kind_sorted PyProof.Rows.plain_sorted PyProof.Rows.entry_sorted (PyProof.Rows.args_sorted1 _) ?_
  unfold Builtin.«sorted»
  refine wpAny_bind (m := checkCount "sorted" 1 1 _) (wpAny_pure ?_)
  refine wpAny_bind (wpAny_collect_seq a hT ho hc hd (fun h1 kp => ?_) (by rw [List.size_toArray]; exact hz))
  have I1 : Inv X pins σ H { s with heap := h1, toks := s.toks } := I.kept kp
  show wpAny _ _ _ _ _ { s with heap := h1, toks := s.toks }
  rw [List.toList_toArray]
  refine wpAny_bind (wpAny_newList ?_ hz)
  have atL : (h1.push (seqObj "list" its.toArray 0)).get? h1.objs.size = some (seqObj "list" its.toArray 0) := Heap.get?_push_size _ rfl
  have keepL : ∀ {out : Array Value} (b : Addr) (u : Obj), h1.get? b = some u → (PyProof.Rows.sortedHeap (h1.push (seqObj "list" its.toArray 0)) h1.objs.size its out).get? b = some u := fun {out} b u e => by
    have lt := Heap.lt_size e
    rw [PyProof.Rows.sortedHeap_old (Nat.ne_of_lt lt) (by rw [size_push']; exact Nat.lt_succ_of_lt lt)]
    exact Heap.get?_push_of_some _ e
  rcases hq with ⟨ns, ey, l64, q⟩ | ⟨ss, ey, l64, q⟩
  · subst ey
    have hi := rv.ints
    have le := rv.length
    rw [List.length_map] at le
    refine wpAny_bind (wpAny_holding (wpAny_call_entry PyProof.Rows.slot_list_sort ⟨_, atL, rfl⟩ PyProof.Rows.entry_list_sort
      (list_sort_tree (s := { s with heap := h1.push (seqObj "list" its.toArray 0), toks := s.toks }) atL hi (by rw [← le]; exact l64) fun out ns' g1 g2 g3 => ⟨_, rfl, ?_⟩) (PyProof.Rows.args_list_sort _)))
    obtain ⟨ep, hp⟩ := PyProof.Rows.sortedHeap_at (vs := its) (out := out) atL
    refine wpAny_pure ⟨_, rfl, .ref h1.objs.size, upd H h1.objs.size (.lst (ns'.map V.int)), I1.laid (t' := s.toks) keepL (Nat.le_refl _)
      (show ObjOk X.prog X.w _ _ _ (.lst (ns'.map V.int)) from ⟨by rw [List.length_map, g2.length_eq]; exact Nat.le_trans (Nat.le_of_lt l64) (by decide), out.toList, ep, vals_of_ints g1, by rw [Array.toArray_toList]; exact hp⟩), rfl, q ns' _ g2 g3 (I1.hok.fresh (Nat.le_refl _))⟩
  · subst ey
    have hi := rv.strs
    have le := rv.length
    rw [List.length_map] at le
    refine wpAny_bind (wpAny_holding (wpAny_call_entry PyProof.Rows.slot_list_sort ⟨_, atL, rfl⟩ PyProof.Rows.entry_list_sort
      (list_sort_treeK strKind_oneLt (s := { s with heap := h1.push (seqObj "list" its.toArray 0), toks := s.toks }) atL hi.keysOf (fun v1 v2 rest e => keyKind_strs (by rw [← e]; exact hi)) (by rw [← le]; exact l64) fun st g1 g2 => ⟨_, rfl, ?_⟩) (PyProof.Rows.args_list_sort _)))
    obtain ⟨l, g3, g4, g5⟩ := sorted_out_str hi g1 g2
    obtain ⟨ep, hp⟩ := PyProof.Rows.sortedHeap_at (vs := its) (out := (arrOf st).map (·.2)) atL
    refine wpAny_pure ⟨_, rfl, .ref h1.objs.size, upd H h1.objs.size (.lst (l.map V.str)), I1.laid (t' := s.toks) keepL (Nat.le_refl _)
      (show ObjOk X.prog X.w _ _ _ (.lst (l.map V.str)) from ⟨by rw [List.length_map, g4.length_eq]; exact Nat.le_trans (Nat.le_of_lt l64) (by decide), ((arrOf st).map (·.2)).toList, ep, vals_of_strs g3, by rw [Array.toArray_toList]; exact hp⟩), rfl, q l _ g4 g5 (I1.hok.fresh (Nat.le_refl _))⟩
def fSrt (nm : Bool) : FD := fun ds h => match ds with
  | [d] => match seqOf h d with
    | some xs => match intsOf xs with
      | some is => if is.length < 64 then mkL nm ((sortI is).map D.int) h else fSort nm ds h
      | none => match strsOf xs with
        | some ss => if ss.length < 64 then mkL nm ((sortS ss).map D.str) h else .no
        | none => .no
    | none => fSort nm ds h
  | _ => .no
theorem call_srt (hc : X.calm = true := by rfl) (hK : X.K = K := by rfl) : CallR X (.builtin "sorted") (fun xs H Q => rSrt K xs H Q ∨ rSortQ K xs H Q) := (call_sortU hc hK).or (cr_sortQ hK)
theorem sim_srt {nm : Bool} : SimC K CA (fun xs H Q => rSrt K xs H Q ∨ rSortQ K xs H Q) (fSrt nm) := by
  intro W σ m h H xs ds Q' S r t
  unfold fSrt at t
  split at t
  · rename_i d
    split at t
    · rename_i ys e
      obtain ⟨v, rfl⟩ : ∃ v, xs = [v] := by cases r with | cons r1 r2 => cases r2; exact ⟨_, rfl⟩
      have r1 : Rp K CA m h H v d := by cases r with | cons r1 r2 => exact r1
      obtain ⟨a, zs, rfl, e1, rr⟩ := rp_seq S r1 e
      split at t
      · rename_i is ei
        by_cases c : is.length < 64
        · rw [if_pos c] at t
          obtain ⟨q1, q2⟩ := rp_ints rr ei
          exact .inr ⟨a, zs, rfl, e1, .inl ⟨is, q1, c, fun l p h1 h2 n => by rw [sortI_eq h1 h2]; exact mkL_post S n (all_ints _) t⟩⟩
        · rw [if_neg c] at t
          exact .inl (sim_sort W σ m h H _ _ Q' S r t)
      · split at t
        · rename_i ss es
          obtain ⟨l64, t⟩ := post_ite t
          obtain ⟨q1, q2⟩ := rp_strs rr es
          exact .inr ⟨a, zs, rfl, e1, .inr ⟨ss, q1, l64, fun l p h1 h2 n => by rw [sortS_eq h1 h2]; exact mkL_post S n (all_strs _) t⟩⟩
        · exact t.elim
    · exact .inl (sim_sort W σ m h H _ _ Q' S r t)
  · exact t.elim
end
/-! ### len(set(texts)) -/
def fLenS : F1 := fun d h => match seqOf h d with
  | some xs => match strsOf xs with
    | some ss => if ss.length < 1000 then .ok (.int (ded ss).length) h else .no
    | none => .no
  | none => .no
def tLenS (K : PySem.W.Frag) (ta : TE) : TE := fun σ H Q => ta σ H fun x H1 => ∃ a ss, x = V.ref a ∧ (SqL K H1 a (ss.map V.str) ∨ SqT K H1 a (ss.map V.str)) ∧ ss.length < 1000 ∧ Q (.int (ded ss).length) H1
section
variable {X : Cx} {K : PySem.W.Frag} {CA : Nat → Addr} {W : WX} {e : Expr} {p p2 q pos : Pos} {ha : TE} {ta : TD}
theorem vals_of {ss : List Str} {its : List Value} (hi : StrsAre its ss) : ∀ (i : Nat) (v : Value), its.toArray[i]? = some v → ∃ k t, ss[i]? = some k ∧ v = .str k t := fun i v hv => by
  have hv' : its[i]? = some v := by simpa using hv
  obtain ⟨t, e⟩ := SS.strs_at hi i v hv'
  have lt : i < ss.length := by
    rw [← StrsAre.len_eq hi]
    exact (List.getElem?_eq_some_iff.mp hv').1
  refine ⟨ss[i], t, List.getElem?_eq_getElem lt, ?_⟩
  rw [e, List.getD_eq_getElem?_getD, List.getElem?_eq_getElem lt]
  rfl
theorem pe_lenS (hc : X.calm = true) (hg : Gl X "len") (hm : X.mg "len" = none) (hg2 : Gl X "set") (hm2 : X.mg "set" = none) (ha' : PE X e ha) (hK : X.K = K := by rfl)
    (na : starEach [e] X.env = (false, eval e X.env) :: starEach [] X.env := by rfl) : PE X (.Call (.Name "len" p) [.Call (.Name "set" p2) [e] [] q] [] pos) (tLenS K ha) := by
  subst hK
  refine ⟨fun pins s σ H Q I h => ?_⟩
  refine Call_ (ld_blt I hg hm boot_len ?_)
  refine PyProof.Rows.callWith_builtin1 (PyProof.Rows.args_cons ?_ rfl) rfl rfl
  refine Call_ (ld_blt I hg2 hm2 boot_set ?_)
  refine PyProof.Rows.callWith_type1 (PyProof.Rows.args_cons (thn (ha'.run pins s σ H _ I h) fun v s1 ⟨x, H1, I1, r1, q1⟩ => PyProof.Rows.args_nil ?_) na) na rfl
  obtain ⟨a, ss, rfl, hs, l3, q2⟩ := q1
  cases r1
  have room : ss.length + 1 < scanBound := by unfold scanBound; omega
  have last : ∀ (h2 : Heap) (tk : Nat), h2.SetOf (PySem.strKind X.prog X.w) s1.heap.objs.size (fun z => decide (z ∈ ded ss)) (ded ss).length → (∀ b o, s1.heap.get? b = some o → h2.get? b = some o) →
      wpAny (model X.prog X.w) X.A (spliced (backTo pos (starEach [] X.env))) (fun vs s₂ => wpAny (model X.prog X.w) X.A (call (.builtin "len") (Value.ref s1.heap.objs.size :: vs)) (EP X pins σ Q) X.xe s₂) X.xe { s1 with heap := h2, toks := tk } := fun h2 tk hS kp => by
    refine PyProof.Rows.args_nil ?_
    obtain ⟨o, es, ep, t, ho, hex, hd, _, _, _, hf, hn⟩ := hS
    have I2 : Inv X pins σ H1 { s1 with heap := h2, toks := tk } := I1.kept kp
    have := ded_le ss
    exact call_len_set ho hex hd hf (by rw [hn]; omega) ⟨.int (ded ss).length, H1, I2.tok _, ⟨_, by rw [hn]⟩, q2⟩
  have fill : ∀ {its : List Value} (hi : StrsAre its ss) (R : Result → Shared → Prop) (I : Addr) (St : Nat → Shared → Prop) (s2 : Shared), s1.heap.objs.size ∉ [I, a] → WalksS X.prog X.w X.A.in1.in1.in1 I [I, a] [I] (fun a b => b = a) its.toArray.size (fun i v => its.toArray[i]? = some v) St → St 0 s2 →
      s2.heap.get? s1.heap.objs.size = some (eSet X.w) → (∀ s3, Moved [s1.heap.objs.size, I] (fun a b => b = a) s2 s3 → s3.heap.SetOf (PySem.strKind X.prog X.w) s1.heap.objs.size (fun z => decide (z ∈ ded ss)) (ded ss).length → R (.ok (.ret .none)) s3) →
      codeAny (model X.prog X.w) X.A.in1.in1 (.builtin "set.update.loop" ⟨[.ref s1.heap.objs.size, .ref I], []⟩) R s2 := fun {its} hi R I St s2 nin Wk st at0 fin =>
    fill_texts Wk _ nin ss (by rw [List.size_toArray]; exact StrsAre.len_eq hi) room (vals_of hi) _ 0 s2 rfl (Nat.zero_le _) st
      (SetOf_congr ((setObjOf_fresh (knd := PySem.strKind X.prog X.w) _).setOf at0 (by unfold scanBound; omega)) (fun z => by simp [ded]) (by simp [ded])) fun s3 mv hS => fin s3 mv hS
  rcases hs with hs | hs
  · obtain ⟨its, rv, pl, hz⟩ := I1.list hs
    exact set_by_list (I1.ok.hd hc) pl.isList (fill rv.strs) last
  · obtain ⟨its, rv, pl, hz⟩ := I1.tuple hs
    exact set_by_tuple (I1.ok.hd hc) pl (fill rv.strs) last
theorem we_lenS (x : WE X K CA W e ha ta) (hm : X.mg "len" = none) (hm2 : X.mg "set" = none) (hc : X.calm = true := by rfl) (hg : Gl X "len" := by rfl) (hg2 : Gl X "set" := by rfl) (hK : X.K = K := by rfl)
    (na : starEach [e] X.env = (false, eval e X.env) :: starEach [] X.env := by rfl) : WE X K CA W (.Call (.Name "len" p) [.Call (.Name "set" p2) [e] [] q] [] pos) (tLenS K ha) (dUn fLenS ta) :=
  ⟨pe_lenS hc hg hm hg2 hm2 x.pe hK na, fun m h H σ ρ Q' S t => x.sim m h H σ ρ _ S (t.bind fun d h1 m1 v H1 s1 S1 r1 t1 => by
    unfold fLenS at t1
    split at t1
    · rename_i xs e
      split at t1
      · rename_i ss es
        obtain ⟨l3, t2⟩ := post_ite t1
        obtain ⟨a, zs, rfl, e1, rr⟩ := rp_seq S1 r1 e
        obtain ⟨q1, q2⟩ := rp_strs rr es
        subst q1
        exact ⟨a, ss, rfl, e1, l3, t2.here S1 (.int _)⟩
      · exact t1.elim
    · exact t1.elim)⟩
end
/-! ### sorted(set(ints)) -/
/-- the different ones, ascending -/
def insU (x : Int) : List Int → List Int
  | [] => [x]
  | y :: r => if x < y then x :: y :: r else if x = y then y :: r else y :: insU x r
def sortU : List Int → List Int
  | [] => []
  | x :: r => insU x (sortU r)
theorem mem_insU (x z : Int) : ∀ l, z ∈ insU x l ↔ z = x ∨ z ∈ l
  | [] => by simp [insU]
  | y :: r => by
    unfold insU
    split
    · simp
    · split
      · rename_i e
        subst e
        simp
      · rw [List.mem_cons, mem_insU x z r, List.mem_cons]
        constructor
        · rintro (a | a | a)
          · exact .inr (.inl a)
          · exact .inl a
          · exact .inr (.inr a)
        · rintro (a | a | a)
          · exact .inr (.inl a)
          · exact .inl a
          · exact .inr (.inr a)
theorem mem_sortU (z : Int) : ∀ l, z ∈ sortU l ↔ z ∈ l
  | [] => by simp [sortU]
  | x :: r => by rw [sortU, mem_insU, mem_sortU z r, List.mem_cons]
theorem insU_lt (x : Int) : ∀ l : List Int, l.Pairwise (· < ·) → (insU x l).Pairwise (· < ·)
  | [], _ => by simp [insU]
  | y :: r, h => by
    unfold insU
    have h' := List.pairwise_cons.mp h
    split
    · rename_i c
      refine List.pairwise_cons.mpr ⟨fun z hz => ?_, h⟩
      rcases List.mem_cons.mp hz with e | e
      · omega
      · have := h'.1 z e; omega
    · split
      · exact h
      · refine List.pairwise_cons.mpr ⟨fun z hz => ?_, insU_lt x r h'.2⟩
        rcases (mem_insU x z r).mp hz with e | e
        · omega
        · exact h'.1 z e
theorem sortU_lt : ∀ l : List Int, (sortU l).Pairwise (· < ·)
  | [] => .nil
  | x :: r => insU_lt x _ (sortU_lt r)
theorem lt_same : ∀ {l l' : List Int}, l.Pairwise (· < ·) → l'.Pairwise (· < ·) → (∀ z, z ∈ l ↔ z ∈ l') → l = l'
  | [], [], _, _, _ => rfl
  | [], y :: r, _, _, e => by have := (e y).mpr (List.mem_cons_self ..); cases this
  | y :: r, [], _, _, e => by have := (e y).mp (List.mem_cons_self ..); cases this
  | x :: r, y :: t, h1, h2, e => by
    have a1 := List.pairwise_cons.mp h1
    have a2 := List.pairwise_cons.mp h2
    have exy : x = y := by
      rcases List.mem_cons.mp ((e x).mp (List.mem_cons_self ..)) with z | z
      · exact z
      · rcases List.mem_cons.mp ((e y).mpr (List.mem_cons_self ..)) with u | u
        · exact u.symm
        · have := a2.1 x z; have := a1.1 y u; omega
    subst exy
    rw [lt_same a1.2 a2.2 fun z => ?_]
    constructor
    · intro hz
      rcases List.mem_cons.mp ((e z).mp (List.mem_cons_of_mem _ hz)) with u | u
      · have := a1.1 z hz; omega
      · exact u
    · intro hz
      rcases List.mem_cons.mp ((e z).mpr (List.mem_cons_of_mem _ hz)) with u | u
      · have := a2.1 z hz; omega
      · exact u
def fSortSet (nm : Bool) : F1 := fun d h => match seqOf h d with
  | some xs => match intsOf xs with
    | some is => if is.length < 64 then mkL nm ((sortU is).map D.int) h else .no
    | none => .no
  | none => .no
def tSortSet (K : PySem.W.Frag) (ta : TE) : TE := fun σ H Q => ta σ H fun x H1 => ∃ a ns, x = V.ref a ∧ (SqL K H1 a (ns.map V.int) ∨ SqT K H1 a (ns.map V.int)) ∧ ns.length < 64 ∧ ∀ p, H1 p = none → Q (.ref p) (upd H1 p (.lst ((sortU ns).map V.int)))
section
variable {X : Cx} {K : PySem.W.Frag} {CA : Nat → Addr} {W : WX} {e : Expr} {p p2 q pos : Pos} {ha : TE} {ta : TD}
theorem valsI_of {ns : List Int} {its : List Value} (hi : IntsAre its ns) : ∀ (i : Nat) (v : Value), its.toArray[i]? = some v → ∃ k t, ns[i]? = some k ∧ v = .int k t := fun i v hv => by
  have hv' : its[i]? = some v := by simpa using hv
  obtain ⟨t, e⟩ := PyProof.Rows.IntsAre.int_at hi i v hv'
  have lt : i < ns.length := by
    rw [← IntsAre.length hi]
    exact (List.getElem?_eq_some_iff.mp hv').1
  refine ⟨ns[i], t, List.getElem?_eq_getElem lt, ?_⟩
  rw [e, List.getD_eq_getElem?_getD, List.getElem?_eq_getElem lt]
  rfl
theorem pe_sortSet (hc : X.calm = true) (hg : Gl X "sorted") (hm : X.mg "sorted" = none) (hg2 : Gl X "set") (hm2 : X.mg "set" = none) (ha' : PE X e ha) (hK : X.K = K := by rfl)
    (na : starEach [e] X.env = (false, eval e X.env) :: starEach [] X.env := by rfl) : PE X (.Call (.Name "sorted" p) [.Call (.Name "set" p2) [e] [] q] [] pos) (tSortSet K ha) := by
  subst hK
  refine ⟨fun pins s σ H Q I h => ?_⟩
  refine Call_ (ld_blt I hg hm boot_sortedU ?_)
  refine PyProof.Rows.callWith_builtin1 (PyProof.Rows.args_cons ?_ rfl) rfl rfl
  refine Call_ (ld_blt I hg2 hm2 boot_set ?_)
  refine PyProof.Rows.callWith_type1 (PyProof.Rows.args_cons (thn (ha'.run pins s σ H _ I h) fun v s1 ⟨x, H1, I1, r1, q1⟩ => PyProof.Rows.args_nil ?_) na) na rfl
  obtain ⟨a, ns, rfl, hs, l3, q2⟩ := q1
  cases r1
  have room : ns.length + 1 < scanBound := by unfold scanBound; omega
  have last : ∀ (h2 : Heap) (tk : Nat), (∃ c, c ≤ ns.length ∧ SetR X.w h2 s1.heap.objs.size (fun j => decide (j ∈ ns)) c) → (∀ b o, s1.heap.get? b = some o → h2.get? b = some o) →
      wpAny (model X.prog X.w) X.A (spliced (backTo pos (starEach [] X.env))) (fun vs s₂ => wpAny (model X.prog X.w) X.A (call (.builtin "sorted") (Value.ref s1.heap.objs.size :: vs)) (EP X pins σ Q) X.xe s₂) X.xe { s1 with heap := h2, toks := tk } := fun h2 tk ⟨c, lc, R⟩ kp => by
    refine PyProof.Rows.args_nil ?_
    have I2 : Inv X pins σ H1 { s1 with heap := h2, toks := tk } := I1.kept kp
    refine sorted_set (P := X.prog) R (I1.ok.hd hc) (by omega) fun s3 pp out cc l k3 g3 o3 lp atp isI pw mem len => ?_
    have el : l = sortU ns := lt_same pw (sortU_lt ns) fun z => by rw [mem, mem_sortU]; simp
    have nP := I2.hok.fresh lp
    have lz : (l.map V.int).length ≤ sizeLine := by rw [List.length_map, len]; exact Nat.le_trans lc (Nat.le_trans (Nat.le_of_lt l3) (by decide))
    have I3 : Inv X pins σ (upd H1 pp (.lst (l.map V.int))) s3 :=
      I2.call' (ch := []) o3 (Un.laid k3 lp nP) (I2.hok.laid k3 lp ⟨lz, out.toList, cc, vals_of_ints isI, by rw [Array.toArray_toList]; exact atp⟩) (by rw [g3]; exact I2.bare) (fun _ z => nomatch z)
    subst el
    exact ⟨.ref pp, _, I3, rfl, q2 pp (I2.hok.fresh lp)⟩
  have fill : ∀ {its : List Value} (hi : IntsAre its ns) (R : Result → Shared → Prop) (I : Addr) (St : Nat → Shared → Prop) (s2 : Shared), s1.heap.objs.size ∉ [I, a] → WalksS X.prog X.w X.A.in1.in1.in1 I [I, a] [I] (fun a b => b = a) its.toArray.size (fun i v => its.toArray[i]? = some v) St → St 0 s2 →
      s2.heap.get? s1.heap.objs.size = some (eSet X.w) → (∀ s3, Moved [s1.heap.objs.size, I] (fun a b => b = a) s2 s3 → (∃ c, c ≤ ns.length ∧ SetR X.w s3.heap s1.heap.objs.size (fun j => decide (j ∈ ns)) c) → R (.ok (.ret .none)) s3) →
      codeAny (model X.prog X.w) X.A.in1.in1 (.builtin "set.update.loop" ⟨[.ref s1.heap.objs.size, .ref I], []⟩) R s2 := fun {its} hi R I St s2 nin Wk st at0 fin => by
    have en : its.toArray.size = ns.length := by rw [List.size_toArray]; exact IntsAre.length hi
    exact set_update_ints Wk _ nin ns en room (valsI_of hi) _ 0 s2 rfl (Nat.zero_le _) st ⟨0, Nat.le_refl _, setR_new_at at0⟩ fun s3 c mv lc hS => fin s3 mv ⟨c, by rw [← en]; exact lc, hS⟩
  rcases hs with hs | hs
  · obtain ⟨its, rv, pl, hz⟩ := I1.list hs
    exact set_by_list (I1.ok.hd hc) pl.isList (fill rv.ints) last
  · obtain ⟨its, rv, pl, hz⟩ := I1.tuple hs
    exact set_by_tuple (I1.ok.hd hc) pl (fill rv.ints) last
theorem we_sortSet (nm : Bool) (x : WE X K CA W e ha ta) (hm : X.mg "sorted" = none) (hm2 : X.mg "set" = none) (hc : X.calm = true := by rfl) (hg : Gl X "sorted" := by rfl) (hg2 : Gl X "set" := by rfl) (hK : X.K = K := by rfl)
    (na : starEach [e] X.env = (false, eval e X.env) :: starEach [] X.env := by rfl) : WE X K CA W (.Call (.Name "sorted" p) [.Call (.Name "set" p2) [e] [] q] [] pos) (tSortSet K ha) (dUn (fSortSet nm) ta) :=
  ⟨pe_sortSet hc hg hm hg2 hm2 x.pe hK na, fun m h H σ ρ Q' S t => x.sim m h H σ ρ _ S (t.bind fun d h1 m1 v H1 s1 S1 r1 t1 => by
    unfold fSortSet at t1
    split at t1
    · rename_i xs e
      split at t1
      · rename_i ss es
        obtain ⟨l3, t2⟩ := post_ite t1
        obtain ⟨a, zs, rfl, e1, rr⟩ := rp_seq S1 r1 e
        obtain ⟨q1, q2⟩ := rp_ints rr es
        subst q1
        exact ⟨a, ss, rfl, e1, l3, fun p n => mkL_post S1 n (all_ints _) t2⟩
      · exact t1.elim
    · exact t1.elim)⟩
end
end CM
/-! what the generated texts use besides -/
namespace CM
open PySem PySem.Spec PyProof.Rows L2

theorem noG {p : Prop} : (false = true) → p := fun z => nomatch z
theorem pick_cons (d : D) (ds zs : List D) : ∀ (n i : Nat), pickD (d :: ds) zs (srcP (i + 1) n) = pickD ds zs (srcP i n)
  | 0, _ => rfl
  | n + 1, i => by
    show (d :: ds).getD (i + 1) .non :: pickD (d :: ds) zs (srcP (i + 1 + 1) n) = ds.getD i .non :: pickD ds zs (srcP (i + 1) n)
    rw [pick_cons d ds zs n (i + 1)]
    rfl
theorem pick_srcP (zs : List D) : ∀ ds : List D, pickD ds zs (srcP 0 ds.length) = ds
  | [] => rfl
  | d :: ds => by
    show (d :: ds).getD 0 .non :: pickD (d :: ds) zs (srcP 1 ds.length) = d :: ds
    rw [pick_cons, pick_srcP zs ds]
    rfl
theorem srcP_length : ∀ (n i : Nat), (srcP i n).length = n
  | 0, _ => rfl
  | n + 1, i => by rw [srcP, List.length_cons, srcP_length n]
section
variable {X : Cx} {K : PySem.W.Frag} {CA : Nat → Addr} {W : WX} {e : Expr} {es : List Expr} {pos p : Pos} {hs : TA} {ts : TDs} {x : Str} {g : Bool} {k : Nat} {ps : List Str} {F : FD} {f : Addr} {fd : FuncData}
/-- f(e, ..), all that there are -/
theorem we_callP (D : Df X.prog X.w X.K X.mg X.base CA x g k ps F f fd) (hG : g = true → X.A.guards = some []) (hr : Room k X.A) (tk' : Takes X W) (h : WA X K CA W (e :: es) hs ts) (B : KwB K CA fd ps ps.length [] (srcP 0 ps.length)) (hg : Gl X x := by rfl) (hK : X.K = K := by rfl)
    (hdb : (x == ("__debug__" : Str)) = false := by decide) (he : starEach (e :: es) X.env = (false, eval e X.env) :: starEach es X.env := by rfl) (hpl : (backTo pos (starEach es X.env)).any (·.1) = false := by rfl) :
    WE X K CA W (.Call (.Name x p) (e :: es) [] pos) (tCallN K CA W ps.length 0 (fun ds _ => F ds) hs L2.tNil) (dCall ps.length F ts) := by
  subst hK
  refine ⟨⟨fun pins s σ H Q I hq => wpAny_Call_Name_kw (ld_glob I hg D.hm ?_ hdb)⟩, sim_call h.sim⟩
  refine PySem.W.callWith_K (h₀ := X.base) I.ok.mod.kin D.hk (thn (h.pe.run pos pins s σ H _ I hq) fun us s1 ⟨vs, H1, I1, r, l1, l2, m, h, ds, es, hR, rd, re, q⟩ => ⟨I1.kIn, ?_⟩) he hpl
  refine run_callN (ws := []) D.G hG hr B tk' I1 r .nil l1 l2 hR rd re (srcP_length _ _) ?_
  have e : pickD ds es (srcP 0 ps.length) = ds := by rw [← l1, rd.length]; exact pick_srcP es ds
  rw [e]
  exact q
end
/-! ### classes, by one look -/
def clsB (K : PySem.W.Frag) (C : Addr) : Bool :=
  PySem.W.plainGet K C Str.empty && (PySem.W.hasDictIn K C && (PySem.W.plainOver K C && (decide (PySem.W.findIn K (.ref C) "__setattr__" = some (some (.builtin "object.__setattr__"))) &&
  (decide (PySem.W.findIn K (.ref C) "__class__" = some (some (.builtin "object.__class__"))) && (decide (PySem.W.specialIn K (.builtin "object.__class__") "__get__" = some (some (.builtin "getset_descriptor.__get__"))) &&
  (decide (PySem.W.takesIn K (.builtin "object.__class__") = some true) && decide (PySem.W.mroIn K C (.type "object") = some true)))))))
structure ClsOk (K : PySem.W.Frag) (C : Addr) : Prop where
  cl : Cls K C
  i1 : PySem.W.findIn K (.ref C) "__class__" = some (some (.builtin "object.__class__"))
  i2 : PySem.W.specialIn K (.builtin "object.__class__") "__get__" = some (some (.builtin "getset_descriptor.__get__"))
  i3 : PySem.W.takesIn K (.builtin "object.__class__") = some true
  i4 : PySem.W.mroIn K C (.type "object") = some true
theorem clsB_ok {K : PySem.W.Frag} {C : Addr} (h : clsB K C = true) : ClsOk K C := by
  unfold clsB at h
  simp only [Bool.and_eq_true, decide_eq_true_eq] at h
  obtain ⟨h1, h2, h3, h4, h5, h6, h7, h8⟩ := h
  exact ⟨⟨h1, h2, h3, h4⟩, h5, h6, h7, h8⟩
def noB (K : PySem.W.Frag) (C : Addr) (fs : List Str) : Bool := fs.all fun f => decide (PySem.W.findIn K (.ref C) f = some none)
theorem noB_ok {K : PySem.W.Frag} {C : Addr} {fs : List Str} (h : noB K C fs = true) {f : Str} (hf : f ∈ fs) : NoAttr K C f := by
  have := List.all_eq_true.mp h f hf
  have e : PySem.W.findIn K (.ref C) f = some none := by simpa using this
  exact e
/-! ### isinstance with own classes: sup tells of each own class what it is -/
def ktT (sup : List (List Tg)) (bs : List String) : KT := fun a b => match a, b with
  | .b x, .b y => ktB (.b x) (.b y)
  | .b x, .o d => if x ∈ tys ∧ d < sup.length then some false else none
  | .o c, b => match sup[c]? with
    | some l => if (match b with | .b y => decide (y ∈ bs) | .o d => decide (d < sup.length)) = true then some (decide (b ∈ l)) else none
    | none => none
def ktChk (K : PySem.W.Frag) (CA : Nat → Addr) (sup : List (List Tg)) (bs : List String) : Bool :=
  (List.range sup.length).all fun c => (tys.all fun x => decide (PySem.W.kitOne K (.type x) (.ref (CA c)) = some false)) && ((bs.all fun y => decide (PySem.W.kitOne K (.ref (CA c)) (.type y) = some (decide (Tg.b y ∈ sup.getD c [])))) &&
    (List.range sup.length).all fun d => decide (PySem.W.kitOne K (.ref (CA c)) (.ref (CA d)) = some (decide (Tg.o d ∈ sup.getD c []))))
theorem ktT_ok {K : PySem.W.Frag} {CA : Nat → Addr} {sup : List (List Tg)} {bs : List String} {own : List Nat} (h : ktChk K CA sup bs = true) (hc : ∀ c, c ∈ own → ClsOk K (CA c)) : KtOk K CA own (ktT sup bs) := by
  have look : ∀ c, c < sup.length → (tys.all fun x => decide (PySem.W.kitOne K (.type x) (.ref (CA c)) = some false)) = true ∧ (bs.all fun y => decide (PySem.W.kitOne K (.ref (CA c)) (.type y) = some (decide (Tg.b y ∈ sup.getD c [])))) = true ∧
      (List.range sup.length).all (fun d => decide (PySem.W.kitOne K (.ref (CA c)) (.ref (CA d)) = some (decide (Tg.o d ∈ sup.getD c [])))) = true := fun c lt => by
    have := List.all_eq_true.mp h c (List.mem_range.mpr lt)
    rw [Bool.and_eq_true, Bool.and_eq_true] at this
    exact ⟨this.1, this.2.1, this.2.2⟩
  refine ⟨fun a b r e => ?_, fun c hm => ⟨(hc c hm).cl, (hc c hm).i1, (hc c hm).i2, (hc c hm).i3, (hc c hm).i4⟩⟩
  cases a with
  | b x =>
    cases b with
    | b y => exact (ktB_ok (K := K) (CA := CA)).one _ _ r e
    | o d =>
      simp only [ktT] at e
      by_cases q : x ∈ tys ∧ d < sup.length
      · rw [if_pos q] at e
        cases e
        exact of_decide_eq_true (List.all_eq_true.mp (look d q.2).1 x q.1)
      · rw [if_neg q] at e; cases e
  | o c =>
    simp only [ktT] at e
    split at e
    · rename_i l el
      have lt : c < sup.length := (List.getElem?_eq_some_iff.mp el).1
      have gl : sup.getD c [] = l := by rw [List.getD_eq_getElem?_getD, el]; rfl
      have lk := look c lt
      rw [gl] at lk
      cases b with
      | b y =>
        by_cases q : y ∈ bs
        · simp only [q, decide_true, if_true] at e
          cases e
          exact of_decide_eq_true (List.all_eq_true.mp lk.2.1 y q)
        · simp [q] at e
      | o d =>
        by_cases q : d < sup.length
        · simp only [q, decide_true, if_true] at e
          cases e
          exact of_decide_eq_true (List.all_eq_true.mp lk.2.2 d (List.mem_range.mpr q))
        · simp [q] at e
    · cases e
/-! ### methods, makes and the like, from what stands in the written part -/
section
variable {P : Program} {w : World} {K : PySem.W.Frag} {mg : Str → Option Value} {base : Heap} {CA : Nat → Addr} {c0 k : Nat} {ps : List Str} {F : FD} {f p : Addr} {fd : FuncData} {nm nmf qual : Str} {st : Stmt}
theorem Df.of {g : Bool} (T : Fun K nmf qual st f fd) (G : FnG P w K mg base g k f fd ps (spD K CA ps.length F)) (hm : mg nm = some (.ref f)) : Df P w K mg base CA nm g k ps F f fd := ⟨G, hm, T.kp⟩
theorem Mtd.of {g : Bool} (T : Fun K nmf qual st f fd) (G : FnG P w K mg base g k f fd ps (spD K CA ps.length F)) (cl : ClsOk K (CA c0)) (hm : PySem.W.findIn K (.ref (CA c0)) nm = some (some (.ref f))) (hf : PySem.W.isFn K (.ref f) = true) : Mtd P w K mg base CA c0 nm g k ps F f fd :=
  ⟨G, cl.cl, ⟨hm, hf, T.kp⟩⟩
theorem Mkd.of (T : Fun K nmf qual st f fd) (G : FnG P w K mg base false k f fd ps (spD K CA ps.length F)) (hm : mg nm = some (.ref (CA c0))) (hi : PySem.W.findIn K (.ref (CA c0)) "__init__" = some (some (.ref f))) (hf : PySem.W.isFn K (.ref f) = true) (mk : PySem.W.makesIn K (CA c0) = true) (kp : PySem.W.keepIn K (.ref (CA c0)) = true) :
    Mkd P w K mg base CA c0 nm k ps F f fd := ⟨G, hm, ⟨mk, hi, hf, kp⟩⟩
theorem Prd.of {rest : List Value} (T : Fun K nmf qual st f fd) (G : FnOk P w K mg base L2.CX0 k f fd ps (spD K CA 1 (noxF F))) (cl : ClsOk K (CA c0)) (h1 : PySem.W.findIn K (.ref (CA c0)) nm = some (some (.ref p))) (h2 : PySem.W.specialIn K (.ref p) "__get__" = some (some (.builtin "property.__get__"))) (h3 : PySem.W.takesIn K (.ref p) = some true)
    (h4 : PySem.W.recIn K p "property" = some (.ref f :: rest)) (b : ∀ (kV doc pm : Value) (an : Option Addr) (cdv ct : Value) (us : List Value), us.length = ps.length → bindArgs (PySem.W.fnOf nmf qual (defArgs st) (defBody st) (defScope st) .none kV doc pm an cdv ct) ⟨us, []⟩ = pure (ps.zip us)) :
    Prd P w K mg base CA c0 nm k ps F := ⟨⟨p, f, fd, G, ⟨h1, h2, h3, rest, h4⟩, T.binds b⟩, cl.cl⟩
def nfB (K : PySem.W.Frag) (CA : Nat → Addr) (c0 : Nat) (ts : List Tg) : Bool := ts.all fun t => PySem.W.notFirst K (CA c0) (t.v CA)
theorem OwnE.of {ts : List Tg} (T : Fun K nmf qual st f fd) (G : FnG P w K mg base false k f fd ps (spD K CA ps.length F)) (hl : ps.length = 2) (cl : ClsOk K (CA c0)) (hm : PySem.W.findIn K (.ref (CA c0)) "__eq__" = some (some (.ref f))) (hf : PySem.W.isFn K (.ref f) = true)
    (hn : PySem.W.findIn K (.ref (CA c0)) "__ne__" = some (some (.builtin "object.__ne__"))) (hc : nfB K CA c0 ts = true) (b : ∀ (kV doc pm : Value) (an : Option Addr) (cdv ct : Value) (us : List Value), us.length = ps.length → bindArgs (PySem.W.fnOf nmf qual (defArgs st) (defBody st) (defScope st) .none kV doc pm an cdv ct) ⟨us, []⟩ = pure (ps.zip us)) :
    OwnE P w K mg base CA c0 (fun t => decide (t ∈ ts)) k ps F f fd :=
  ⟨by rw [← hl]; exact G, hm, hn, hf, cl.i4, fun t ht => List.all_eq_true.mp hc t (of_decide_eq_true ht), T.binds b⟩
end
end CM
/-! xs[::-1]; defaults of keyword-only parameters -/
namespace CM
open PySem PySem.Spec PyProof.Rows L2

def fRev (nm : Bool) : F1 := fun d h => match lstOf h d with
  | some xs => mkL nm xs.reverse h
  | none => .no
section
variable {X : Cx} {K : PySem.W.Frag} {CA : Nat → Addr} {W : WX} {e : Expr} {ha : TE} {ta : TD} {k : Nat} {p1 p2 p3 pos : Pos}
theorem we_rev (nm : Bool) (x : WE X K CA W e ha ta) (hK : X.K = K := by rfl) : WE X K CA W (.Subscript e (.Slice none none (some (.UnaryOp .USub (.Constant (.int 1) k p1) p2)) p3) pos) (tRevL K ha) (dUn (fRev nm) ta) := by
  subst hK
  refine ⟨pe_revL x.pe, fun m h H σ ρ Q' S t => x.sim m h H σ ρ _ S (t.bind fun d h1 m1 v H1 s1 S1 r1 t1 => ?_)⟩
  unfold fRev at t1
  split at t1
  · rename_i xs el
    obtain ⟨a, ys, rfl, e1, rr⟩ := rp_lst S1 r1 el
    exact ⟨a, ys, rfl, .of e1, fun p n => mkL_post S1 n rr.reverse t1⟩
  · exact t1.elim
end
theorem KwB.kw {K : PySem.W.Frag} {CA : Nat → Addr} {fd : FuncData} {ps : List Str} {n : Nat} {ks : List Str} {src : List Src} {D : Addr} (names : List Str) (cs : List Value) (hq : ∀ q, q ∈ names.zip cs → PySem.W.nsIn K D q.1 = some (some q.2)) (he : Paired (Ever K CA) cs (consts src))
    (h : ∀ us ws : List Value, us.length = n → ws.length = ks.length → KwChain D (names.zip cs) (bindArgs fd ⟨us, ks.zip ws⟩) (ps.zip (pickL us ws src cs))) : KwB K CA fd ps n ks src :=
  ⟨cs, he, fun s us ws X l1 l2 => BindsTo.of_looks fun M => KwChain.looks X hq (h us ws l1 l2)⟩
end CM
namespace CM
open PySem PySem.Spec PyProof.Rows L2

/-! ### evaluation of readings -/
section
variable {α β : Type} {a : α} {h : CH} {c : Nat} {fs : List (Str × D)} {f : α → CH → R β} {g : α → CH → RS} {ρ : DE} {w : SD} {d : D}
@[simp] theorem bind_ok : (R.ok a h).bind f = f a h := rfl
@[simp] theorem bind_ex : (R.ex c fs h : R α).bind f = .ex c fs h := rfl
@[simp] theorem bind_no : (R.no : R α).bind f = .no := rfl
@[simp] theorem calm_ok : (R.ok a h).calm f = f a h := rfl
@[simp] theorem calm_no : (R.no : R α).calm f = .no := rfl
@[simp] theorem toS_ok : (R.ok a h).toS ρ g = g a h := rfl
@[simp] theorem toS_ex : (R.ex c fs h : R α).toS ρ g = .ex ρ c fs h := rfl
@[simp] theorem toS_no : (R.no : R α).toS ρ g = .no := rfl
@[simp] theorem sbind_nx : (RS.nx ρ h).bind w = w ρ h := rfl
@[simp] theorem sbind_rt : (RS.rt d h).bind w = .rt d h := rfl
@[simp] theorem sbind_bk : (RS.bk ρ h).bind w = .bk ρ h := rfl
@[simp] theorem sbind_ct : (RS.ct ρ h).bind w = .ct ρ h := rfl
@[simp] theorem sbind_ex : (RS.ex ρ c fs h).bind w = .ex ρ c fs h := rfl
@[simp] theorem sbind_no : (RS.no).bind w = .no := rfl
@[simp] theorem res_nx : (RS.nx ρ h).res = .ok .non h := rfl
@[simp] theorem res_rt : (RS.rt d h).res = .ok d h := rfl
@[simp] theorem res_ex : (RS.ex ρ c fs h).res = .ex c fs h := rfl
@[simp] theorem put_ok {ρ : DE} {k : SD} : (R.ok ρ h).put k = k ρ h := rfl
@[simp] theorem unl_nx : (RS.nx ρ h).unl none = .nx ρ h := rfl
@[simp] theorem unl_none {r : RS} : r.unl none = r := by cases r <;> rfl
@[simp] theorem runl_none {r : R α} : r.unl none = r := by cases r <;> rfl
end
section
variable {ta tb tc : TD} {ts : TDs} {t u : TB} {ρ : DE} {h : CH} {d : D} {f : F2} {f1 : F1} {F : FD} {FMm : FM} {n i : Nat} {nm : Bool} {T : String}
@[simp] theorem e_C : dC d ρ h = .ok d h := rfl
@[simp] theorem e_op : dOp f ta tb ρ h = (ta ρ h).bind fun x h => (tb ρ h).bind fun y h => f x y h := rfl
@[simp] theorem e_un : dUn f1 ta ρ h = (ta ρ h).bind f1 := rfl
@[simp] theorem e_nil : dNil ρ h = .ok [] h := rfl
@[simp] theorem e_cons : dCons ta ts ρ h = (ta ρ h).bind fun x h => (ts ρ h).bind fun xs h => .ok (x :: xs) h := rfl
@[simp] theorem e_tup : dTup ts ρ h = (ts ρ h).bind fun xs h => if xs.length ≤ sizeLine then .ok (.tup xs) h else .no := rfl
@[simp] theorem e_lst : dLst nm ts ρ h = (ts ρ h).bind fun xs h => if xs.length ≤ sizeLine then mkL nm xs h else .no := rfl
@[simp] theorem e_B : dB ta ρ h = (ta ρ h).bind asB := rfl
@[simp] theorem e_and : dAnd t u ρ h = (t ρ h).bind fun c h => if c = true then u ρ h else .ok false h := rfl
@[simp] theorem e_or : dOr t u ρ h = (t ρ h).bind fun c h => if c = true then .ok true h else u ρ h := rfl
@[simp] theorem e_not : dNot t ρ h = (t ρ h).bind fun c h => .ok (!c) h := rfl
@[simp] theorem e_andV : dAndV ta tb ρ h = (ta ρ h).bind fun x h => (asB x h).bind fun c h => if c = true then tb ρ h else .ok (.bl false) h := rfl
@[simp] theorem e_orV : dOrV ta tb ρ h = (ta ρ h).bind fun x h => (asB x h).bind fun c h => if c = true then .ok (.bl true) h else tb ρ h := rfl
@[simp] theorem e_notV : dNotV ta ρ h = (ta ρ h).bind fun x h => (asB x h).bind fun c h => .ok (.bl (!c)) h := rfl
@[simp] theorem e_if : dIf t ta tb ρ h = (t ρ h).bind fun c h => if c = true then ta ρ h else tb ρ h := rfl
@[simp] theorem e_CB : dCB F ts ρ h = (ts ρ h).bind F := rfl
@[simp] theorem e_call : dCall n F ts ρ h = (ts ρ h).bind fun ds h => if ds.length = n then F ds h else .no := rfl
@[simp] theorem asB_bl {b : Bool} : asB (.bl b) h = .ok b h := rfl
@[simp] theorem e_var : dVar i ρ h = match ρ[i]? with
  | some (some d) => .ok d h
  | _ => .no := rfl
@[simp] theorem e_BM : dBM T FMm ta ts ρ h = (ta ρ h).bind fun x h => if isTy T x h = true then (ts ρ h).bind fun xs h => FMm x xs h else .no := rfl
@[simp] theorem e_BM0 : dBM0 T FMm ta ρ h = (ta ρ h).bind fun x h => if isTy T x h = true then FMm x [] h else .no := rfl
end
section
variable {ta : TD} {tg : TGD} {tgs : TGDs} {u w : SD} {ρ : DE} {h : CH} {t : TB} {ts : TDs} {i j : Nat} {d : D} {ds : List D} {N : Nat} {ti : TDw}
@[simp] theorem s_next : dNext ρ h = .nx ρ h := rfl
@[simp] theorem s_seq : dSeq u w ρ h = (u ρ h).bind w := rfl
@[simp] theorem s_if : dIfS t u w ρ h = (t ρ h).toS ρ fun b h => if b = true then u ρ h else w ρ h := rfl
@[simp] theorem s_ret : dRet ta ρ h = (ta ρ h).toS ρ fun d h => .rt d h := rfl
@[simp] theorem s_retN : dRetN ρ h = .rt .non h := rfl
@[simp] theorem s_brk : dBreak ρ h = .bk ρ h := rfl
@[simp] theorem s_cont : dCont ρ h = .ct ρ h := rfl
@[simp] theorem s_drop : dDrop ta ρ h = (ta ρ h).toS ρ fun _ h => .nx ρ h := rfl
@[simp] theorem s_asg : dAsg ta tg ρ h = (ta ρ h).toS ρ fun d h => (tg d ρ h).put fun ρ h => .nx ρ h := rfl
@[simp] theorem s_par : dPar i j ts ρ h = (ts ρ h).toS ρ fun ds h => match ds with
  | [x, y] => .nx ((ρ.set i (some x)).set j (some y)) h
  | _ => .no := rfl
@[simp] theorem g_name : gdName i d ρ h = .ok (ρ.set i (some d)) h := rfl
@[simp] theorem s_for : dFor ti tg u ρ h = (ti ρ h).toS ρ fun w h => (dForL tg u w.1 ρ h).unl w.2 := rfl
@[simp] theorem e_seqI : dSeqI ta ρ h = (ta ρ h).bind fun d h => match itemsD h d with
  | some ds => .ok (ds, none) h
  | none => lockD d h := rfl
end
def Fr (S : List Nat) (h h' : CH) : Prop := h.nx ≤ h'.nx ∧ ∀ k, k < h.nx → k ∉ S → h'.ob k = h.ob k
theorem Fr.refl {S : List Nat} {h : CH} : Fr S h h := ⟨Nat.le_refl _, fun _ _ _ => rfl⟩
theorem Fr.trans {S : List Nat} {h h1 h2 : CH} (a : Fr S h h1) (b : Fr S h1 h2) : Fr S h h2 := ⟨Nat.le_trans a.1 b.1, fun k l n => (b.2 k (Nat.lt_of_lt_of_le l a.1) n).trans (a.2 k l n)⟩
/-! ### the draws -/
theorem s_wc : ("wide" : Str) ≠ "cells" := by decide +kernel
theorem s_wr : ("wide" : Str) ≠ "rest" := by decide +kernel
theorem s_wt : ("wide" : Str) ≠ "turn" := by decide +kernel
theorem s_cr : ("cells" : Str) ≠ "rest" := by decide +kernel
theorem s_ct : ("cells" : Str) ≠ "turn" := by decide +kernel
theorem s_rt : ("rest" : Str) ≠ "turn" := by decide +kernel
def drKvs (w : Nat) (cs : List Int) (x t : Int) : List (Key × D) := [(.inr "wide", .ref w), (.inr "cells", .lst (cs.map D.int)), (.inr "rest", .int x), (.inr "turn", .int t)]
section
variable {w : Nat} {cs : List Int} {x t z : Int}
theorem dr_wide : dGet (drKvs w cs x t) (.inr "wide") = some (.ref w) := by simp [dGet, drKvs]
theorem dr_cells : dGet (drKvs w cs x t) (.inr "cells") = some (.lst (cs.map D.int)) := by simp [dGet, drKvs, s_wc]
theorem dr_rest : dGet (drKvs w cs x t) (.inr "rest") = some (.int x) := by simp [dGet, drKvs, s_wr, s_cr]
theorem dr_turn : dGet (drKvs w cs x t) (.inr "turn") = some (.int t) := by simp [dGet, drKvs, s_wt, s_ct, s_rt]
theorem dr_putR : dPut (drKvs w cs x t) (.inr "rest") (.int z) = drKvs w cs z t := by simp [dPut, drKvs, s_wr, s_cr, s_rt.symm]
theorem dr_putT : dPut (drKvs w cs x t) (.inr "turn") (.int z) = drKvs w cs x z := by simp [dPut, drKvs, s_wt, s_ct, s_rt]
end
structure DrawAt (r w : Nat) (n : Nat) (ws cs : List Int) (x t : Int) (h : CH) : Prop where
  or_ : h.ob r = some (.dct (drKvs w cs x t))
  ow : h.ob w = some (.lst (ws.map D.int))
  ne : r ≠ w
  lr : r < h.nx
  lw : w < h.nx
  cs_ : ∀ c, c ∈ cs → 0 ≤ c ∧ c < 2147483629
  lws : ws.length ≤ 63
  lcs : cs.length ≤ 63
  t0 : 0 ≤ t
  tn : t + (n : Int) ≤ 1000000000
def DrawOk (r w n : Nat) (h : CH) : Prop := ∃ ws cs x t, DrawAt r w n ws cs x t h
end CM
namespace CM
open PySem PySem.Spec PyProof.Rows L2
def u__law_begun : SD := dSeq (dAsg (dLc true (dSeqI (dVar 0)) (gdName 2) (dB (dOp (fB fun i j => decide (i ≥ j)) (dCB fAbs (dCons (dVar 2) (dNil))) (dOp fPow (dC (.int 10)) (dC (.int 18))))) (dOp fSubI (dCB fAbs (dCons (dVar 2) (dNil))) (dOp fPow (dC (.int 10)) (dC (.int 18)))) [2]) (gdName 1)) (dRet (dDisp true [(dC (.str "wide"), dVar 1), (dC (.str "cells"), dLc false (dSeqI (dVar 0)) (gdName 2) (dYes) (dOp fMod (dCB fInt (dCons (dCB fAbs (dCons (dVar 2) (dNil))) (dNil))) (dC (.int 2147483629))) [2]), (dC (.str "rest"), dC (.int 0)), (dC (.str "turn"), dC (.int 0))]))
def F__law_begun : FD := bodyF 3 u__law_begun
def u__law_mixed : SD := dSeq (dPar 1 2 (dCons (dOp (fAdd false) (dOp fIx (dVar 0) (dC (.str "turn"))) (dC (.int 1))) (dCons (dC (.int 0)) (dNil)))) (dSeq (dAsg (dVar 1) (gdSub (dVar 0) (dC (.str "turn")))) (dSeq (dFor (dSeqI (dLst false (dCons (dC (.int 2147483629)) (dCons (dC (.int 2147483587)) (dCons (dC (.int 2147483579)) (dCons (dC (.int 2147483563)) (dNil))))))) (gdName 3) (dSeq (dAsg (dOp (fAdd false) (dOp (fMul false) (dC (.int 61441)) (dVar 1)) (dOp fDiv (dVar 3) (dC (.int 19)))) (gdName 4)) (dSeq (dFor (dSeqI (dOp fIx (dVar 0) (dC (.str "cells")))) (gdName 5) (dAsg (dOp fMod (dCB fInt (dCons (dOp (fAdd false) (dOp (fAdd false) (dOp (fMul false) (dVar 4) (dC (.int 48271))) (dVar 5)) (dVar 1)) (dNil))) (dVar 3)) (gdName 4))) (dAsg (dOp (fAdd false) (dOp (fMul false) (dVar 2) (dC (.int 2147483647))) (dOp fMod (dCB fInt (dCons (dOp fPow (dVar 4) (dC (.int 5))) (dNil))) (dVar 3))) (gdName 2))))) (dRet (dVar 2))))
def F__law_mixed : FD := bodyF 6 u__law_mixed
def u__law_take : SD := dSeq (dIfS (dB (dOp (fEq false) (dOp fIx (dVar 0) (dC (.str "rest"))) (dC (.int 0)))) (dAsg (dIf (dB (dOp (fEq true) (dOp fIx (dVar 0) (dC (.str "wide"))) (dLst false (dNil)))) (dBM "list" fPopAt (dOp fIx (dVar 0) (dC (.str "wide"))) (dCons (dC (.int 0)) (dNil))) (dCall 1 F__law_mixed (dCons (dVar 0) (dNil)))) (gdSub (dVar 0) (dC (.str "rest")))) (dNext)) (dSeq (dAsg (dOp fMod (dCB fInt (dCons (dOp fIx (dVar 0) (dC (.str "rest"))) (dNil))) (dVar 1)) (gdName 2)) (dSeq (dAsg (dOp fDiv (dOp fIx (dVar 0) (dC (.str "rest"))) (dVar 1)) (gdSub (dVar 0) (dC (.str "rest")))) (dRet (dVar 2))))
def F__law_take : FD := bodyF 3 u__law_take
def u__law_pick : SD := dRet (dOp fIx (dVar 1) (dCall 2 F__law_take (dCons (dVar 0) (dCons (dCB fLen (dCons (dVar 1) (dNil))) (dNil)))))
def F__law_pick : FD := bodyF 2 u__law_pick
section
variable {r w n : Nat} {ws cs : List Int} {x t : Int} {h : CH}
abbrev mixBody : SD := dAsg (dOp fMod (dCB fInt (dCons (dOp (fAdd false) (dOp (fAdd false) (dOp (fMul false) (dVar 4) (dC (.int 48271))) (dVar 5)) (dVar 1)) (dNil))) (dVar 3)) (gdName 4)
theorem mix_in {d0 f : D} {tn p : Int} (hp : 0 < p) : ∀ (cs : List Int) (b : Int) (y : Option D), ∃ (b' : Int) (y' : Option D), dForL (gdName 5) mixBody (cs.map D.int) [some d0, some (.int tn), some f, some (.int p), some (.int b), y] h = .nx [some d0, some (.int tn), some f, some (.int p), some (.int b'), y'] h ∧ ((cs = [] ∧ b' = b) ∨ (0 ≤ b' ∧ b' < p))
  | [], b, y => ⟨b, y, rfl, .inl ⟨rfl, rfl⟩⟩
  | c :: cs, b, y => by
    obtain ⟨b', y', e, q⟩ := mix_in hp cs ((b * 48271 + c + tn) % p) (some (.int c))
    refine ⟨b', y', ?_, .inr ?_⟩
    · have cm : CMul b 48271 := .inr ⟨by decide, by decide⟩
      simp only [List.map_cons, dForL]
      simp [fMul, fAdd, fInt, fMod, hp, cm]
      exact e
    · rcases q with ⟨_, rfl⟩ | q
      · exact ⟨Int.emod_nonneg _ (by omega), Int.emod_lt_of_pos _ hp⟩
      · exact q
theorem ix_dr {k : Key} {d : D} {kd : D} (hk : keyD kd = some k) (e : h.ob r = some (.dct (drKvs w cs x t))) (g : dGet (drKvs w cs x t) k = some d) (ni : ∀ i, kd ≠ .int i) : fIx (.ref r) kd h = .ok d h := by
  cases kd with
  | str z => cases hk; simp [fIx, seqOf, dctOf, e, keyD, g]
  | _ => first | (cases hk; done) | exact absurd rfl (ni _)
abbrev outBody : SD := dSeq (dAsg (dOp (fAdd false) (dOp (fMul false) (dC (.int 61441)) (dVar 1)) (dOp fDiv (dVar 3) (dC (.int 19)))) (gdName 4)) (dSeq (dFor (dSeqI (dOp fIx (dVar 0) (dC (.str "cells")))) (gdName 5) mixBody) (dAsg (dOp (fAdd false) (dOp (fMul false) (dVar 2) (dC (.int 2147483647))) (dOp fMod (dCB fInt (dCons (dOp fPow (dVar 4) (dC (.int 5))) (dNil))) (dVar 3))) (gdName 2)))
theorem mix_one {f p tn : Int} {y4 y5 : Option D} (e : h.ob r = some (.dct (drKvs w cs x t))) (hp : 0 < p) (hp2 : p < 2147483648) (h1 : 0 ≤ tn) (h2 : tn ≤ 1000000000) :
    ∃ (f' : Int) (y4' y5' : Option D), outBody [some (.ref r), some (.int tn), some (.int f), some (.int p), y4, y5] h = .nx [some (.ref r), some (.int tn), some (.int f'), some (.int p), y4', y5'] h := by
  obtain ⟨b', y', ei, q⟩ := mix_in (h := h) (d0 := .ref r) (f := .int f) (tn := tn) hp cs (61441 * tn + p / 19) y5
  have c1 : CMul 61441 tn := .inl ⟨by decide, by decide⟩
  have c2 : CDiv p 19 := ⟨by decide, by decide⟩
  have c3 : CMul f 2147483647 := .inr ⟨by decide, by decide⟩
  have c4 : CPow b' 5 := by
    refine ⟨by decide, by decide, ?_⟩
    rcases q with ⟨_, rfl⟩ | q <;> omega
  have ic := ix_dr (kd := .str "cells") rfl e dr_cells (fun i => by simp)
  refine ⟨f * 2147483647 + b' ^ (5 : Int).toNat % p, some (.int b'), y', ?_⟩
  simp [outBody, c1, c2, fMul, fAdd, fDiv, ic, itemsD]
  rw [ei]
  simp [c3, c4, fMul, fAdd, fPow, fInt, fMod, hp]
theorem mixed_ok (A : DrawAt r w (n + 1) ws cs x t h) : ∃ v : Int, F__law_mixed [.ref r] h = .ok (.int v) (h.put r (.dct (drKvs w cs x (t + 1)))) := by
  have it := ix_dr (kd := .str "turn") rfl A.or_ dr_turn (fun i => by simp)
  have tn := A.tn
  have t0 := A.t0
  have e1 : (h.put r (.dct (drKvs w cs x (t + 1)))).ob r = some (.dct (drKvs w cs x (t + 1))) := put_same
  obtain ⟨f1, y1, z1, q1⟩ := mix_one (f := 0) (p := 2147483629) (tn := t + 1) (y4 := none) (y5 := none) e1 (by decide) (by decide) (by omega) (by omega)
  obtain ⟨f2, y2, z2, q2⟩ := mix_one (f := f1) (p := 2147483587) (tn := t + 1) (y4 := y1) (y5 := z1) e1 (by decide) (by decide) (by omega) (by omega)
  obtain ⟨f3, y3, z3, q3⟩ := mix_one (f := f2) (p := 2147483579) (tn := t + 1) (y4 := y2) (y5 := z2) e1 (by decide) (by decide) (by omega) (by omega)
  obtain ⟨f4, y4, z4, q4⟩ := mix_one (f := f3) (p := 2147483563) (tn := t + 1) (y4 := y3) (y5 := z3) e1 (by decide) (by decide) (by omega) (by omega)
  refine ⟨f4, ?_⟩
  have kl : (drKvs w cs x t).length < sizeLine := by show 4 < sizeLine; decide
  have l4 : 4 ≤ sizeLine := by decide
  have L : dForL (gdName 3) outBody [.int 2147483629, .int 2147483587, .int 2147483579, .int 2147483563] [some (.ref r), some (.int (t + 1)), some (.int 0), none, none, none] (h.put r (.dct (drKvs w cs x (t + 1)))) = .nx [some (.ref r), some (.int (t + 1)), some (.int f4), some (.int 2147483563), y4, z4] (h.put r (.dct (drKvs w cs x (t + 1)))) := by
    simp only [dForL, g_name, put_ok, List.set_cons_zero, List.set_cons_succ]
    rw [q1]
    simp only [List.set_cons_zero, List.set_cons_succ]
    rw [q2]
    simp only [List.set_cons_zero, List.set_cons_succ]
    rw [q3]
    simp only [List.set_cons_zero, List.set_cons_succ]
    rw [q4]
  simp only [F__law_mixed, bodyF, startD, u__law_mixed]
  simp [it, fAdd, gdSub, refOf, A.or_, keyD, kl, dr_putT, mkL, itemsD, l4]
  rw [L]
  simp
theorem toP_ints {k : Nat} : ∀ ns : List Int, (ns.map D.int).mapM (toP h (k + 1)) = some (ns.map PyData.int)
  | [] => rfl
  | n :: ns => by
    rw [List.map_cons, List.mapM_cons, toP_ints ns]
    rfl
theorem toP_ref {k n : Nat} {xs : List D} (e : h.ob k = some (.lst xs)) : toP h (n + 1) (.ref k) = (xs.mapM (toP h n)).map .list := by simp only [toP, e]
theorem lay_ints : ∀ ns : List Int, PyData.canLayAll0 (ns.map PyData.int) = true
  | [] => rfl
  | n :: ns => by simp only [List.map_cons, PyData.canLayAll0, PyData.canLay0, lay_ints ns, Bool.and_self]
theorem dep_ints : ∀ ns : List Int, PyData.depthAll (ns.map PyData.int) = 0
  | [] => rfl
  | n :: ns => by simp only [List.map_cons, PyData.depthAll, PyData.depth, dep_ints ns]; rfl
theorem shaped_ints (ns : List Int) : SeqAt.shaped (.list (ns.map PyData.int)) = true := by
  simp only [SeqAt.shaped, PyData.canLay0, lay_ints, PyData.depth, dep_ints, Bool.true_and]
  decide
/-- a list of ints against the empty one -/
theorem ne_nil_ints {k : Nat} (e : h.ob k = some (.lst (ws.map D.int))) : fEq true (.ref k) (.lst []) h = .ok (.bl (!ws.isEmpty)) h := by
  have e1 : toP h 10 (.ref k) = some (.list (ws.map PyData.int)) := by
    rw [toP_ref (n := 9) e, toP_ints (h := h) (k := 8) ws]
    rfl
  have e2 : toP h 10 (.lst []) = some (.list []) := rfl
  have e3 : SeqAt.shaped (.list []) = true := shaped_ints []
  have e4 : PyData.eqv (.list (ws.map PyData.int)) (.list []) = ws.isEmpty := by
    cases ws with
    | nil => rfl
    | cons a l => rfl
  have e5 : scalD (.ref k) (.lst []) = false := rfl
  unfold fEq
  rw [e5, e1, e2]
  simp [shaped_ints, e3, e4, bneg]
theorem eq0_int {i j : Int} : fEq false (.int i) (.int j) h = .ok (.bl (i == j)) h := by simp [fEq, scalD, flatD, eqF, bneg]
/-- only the draws change -/
def DrFr (r w : Nat) (h h' : CH) : Prop := h'.nx = h.nx ∧ ∀ k, k ≠ r → k ≠ w → h'.ob k = h.ob k
theorem DrFr.refl : DrFr r w h h := ⟨rfl, fun _ _ _ => rfl⟩
theorem DrFr.trans {h1 h2 : CH} (a : DrFr r w h h1) (b : DrFr r w h1 h2) : DrFr r w h h2 := ⟨b.1.trans a.1, fun k n m => (b.2 k n m).trans (a.2 k n m)⟩
theorem DrFr.putR {o : MO} : DrFr r w h (h.put r o) := ⟨rfl, fun k n _ => put_ne n⟩
theorem DrFr.putW {o : MO} : DrFr r w h (h.put w o) := ⟨rfl, fun k _ n => put_ne n⟩
theorem DrawAt.setR {x' t' : Int} {m : Nat} (A : DrawAt r w n ws cs x t h) (t0 : 0 ≤ t') (tn : t' + (m : Int) ≤ 1000000000) : DrawAt r w m ws cs x' t' (h.put r (.dct (drKvs w cs x' t'))) :=
  ⟨put_same, by rw [put_ne A.ne.symm]; exact A.ow, A.ne, A.lr, A.lw, A.cs_, A.lws, A.lcs, t0, tn⟩
/-- the rest is there -/
theorem take_first (A : DrawAt r w (n + 1) ws cs x t h) {s : Int} : ∃ (ws' : List Int) (x' t' : Int) (h' : CH), (dIfS (dB (dOp (fEq false) (dOp fIx (dVar 0) (dC (.str "rest"))) (dC (.int 0)))) (dAsg (dIf (dB (dOp (fEq true) (dOp fIx (dVar 0) (dC (.str "wide"))) (dLst false (dNil)))) (dBM "list" fPopAt (dOp fIx (dVar 0) (dC (.str "wide"))) (dCons (dC (.int 0)) (dNil))) (dCall 1 F__law_mixed (dCons (dVar 0) (dNil)))) (gdSub (dVar 0) (dC (.str "rest")))) (dNext)) [some (.ref r), some (.int s), none] h = .nx [some (.ref r), some (.int s), none] h' ∧ DrawAt r w n ws' cs x' t' h' ∧ DrFr r w h h' := by
  have ir := ix_dr (kd := .str "rest") rfl A.or_ dr_rest (fun i => by simp)
  have iw := ix_dr (kd := .str "wide") rfl A.or_ dr_wide (fun i => by simp)
  have kl : ∀ y z, (drKvs w cs y z).length < sizeLine := fun y z => by show 4 < sizeLine; decide
  have A1 : DrawAt r w n ws cs x t h := ⟨A.or_, A.ow, A.ne, A.lr, A.lw, A.cs_, A.lws, A.lcs, A.t0, by have := A.tn; omega⟩
  by_cases hx : x = 0
  · cases ws with
    | nil =>
      obtain ⟨v, ev⟩ := mixed_ok A
      have A2 : DrawAt r w n [] cs x (t + 1) (h.put r (.dct (drKvs w cs x (t + 1)))) := A.setR (by have := A.t0; omega) (by have := A.tn; omega)
      refine ⟨[], v, t + 1, _, ?_, A2.setR A2.t0 A2.tn, DrFr.putR.trans DrFr.putR⟩
      simp [ir, iw, eq0_int, hx, ne_nil_ints A.ow, mkL]
      have ev' := ev
      rw [hx] at ev'
      rw [ev']
      simp [gdSub, refOf, keyD, put_same, kl, dr_putR]
    | cons a ws =>
      have e1 : h.ob w = some (.lst (D.int a :: ws.map D.int)) := A.ow
      have ne := A.ne
      have o1 : (h.put w (.lst (ws.map D.int))).ob r = some (.dct (drKvs w cs x t)) := by rw [put_ne ne]; exact A.or_
      refine ⟨ws, a, t, (h.put w (.lst (ws.map D.int))).put r (.dct (drKvs w cs a t)), ?_, ⟨put_same, by rw [put_ne ne.symm]; exact put_same, ne, A.lr, A.lw, A.cs_, Nat.le_of_succ_le A.lws, A.lcs, A.t0, A1.tn⟩, DrFr.putW.trans DrFr.putR⟩
      have si : seqIndex? 0 (ws.length + 1) = some 0 := by simp [seqIndex?]
      simp [ir, iw, eq0_int, hx, ne_nil_ints A.ow, mkL, isTy, lstOf, fPopAt, e1, si]
      rw [hx] at o1
      simp [gdSub, refOf, keyD, o1, kl, dr_putR]
  · refine ⟨ws, x, t, h, ?_, A1, .refl⟩
    simp [ir, eq0_int, hx]
theorem take_ok (A : DrawOk r w (n + 1) h) {s : Int} (hs : 0 < s) (hs2 : s < 1073741824) : ∃ (v : Int) (h' : CH), F__law_take [.ref r, .int s] h = .ok (.int v) h' ∧ 0 ≤ v ∧ v < s ∧ DrawOk r w n h' ∧ DrFr r w h h' := by
  obtain ⟨ws, cs, x, t, A⟩ := A
  obtain ⟨ws', x', t', h1, e1, A1, f1⟩ := take_first A (s := s)
  have ir := ix_dr (kd := .str "rest") rfl A1.or_ dr_rest (fun i => by simp)
  have kl : ∀ y z, (drKvs w cs y z).length < sizeLine := fun y z => by show 4 < sizeLine; decide
  have cd : CDiv x' s := ⟨hs, hs2⟩
  refine ⟨x' % s, h1.put r (.dct (drKvs w cs (x' / s) t')), ?_, Int.emod_nonneg _ (by omega), Int.emod_lt_of_pos _ hs, ⟨ws', cs, _, t', A1.setR A1.t0 A1.tn⟩, f1.trans DrFr.putR⟩
  simp only [F__law_take, bodyF, startD, u__law_take]
  rw [s_seq]
  show ((_ : RS).bind _).res = _
  simp only [List.map_cons, List.map_nil, List.length_cons, List.length_nil, List.cons_append, List.nil_append]
  show (((dIfS _ _ _) [some (D.ref r), some (D.int s), none] h).bind _).res = _
  rw [e1]
  simp [ir, fInt, fMod, hs, fDiv, cd, gdSub, refOf, A1.or_, keyD, kl, dr_putR]
theorem pick_ok (A : DrawOk r w (n + 1) h) {xs : D} {ds : List D} (e : xs = .lst ds ∨ xs = .tup ds) (h0 : ds ≠ []) (h1 : ds.length < 1073741824) : ∃ (d : D) (h' : CH), F__law_pick [.ref r, xs] h = .ok d h' ∧ d ∈ ds ∧ DrawOk r w n h' ∧ DrFr r w h h' := by
  have hp : 0 < ds.length := List.length_pos_iff.mpr h0
  obtain ⟨v, h', e1, l1, l2, A', f⟩ := take_ok A (s := (ds.length : Int)) (by omega) (by omega)
  have sq : ∀ hh, seqOf hh xs = some ds := fun hh => by rcases e with rfl | rfl <;> rfl
  have hv : v.toNat < ds.length := by omega
  have ai : atI ds v = some ds[v.toNat] := by
    have : ixN ds.length v = some v.toNat := by
      unfold ixN
      rw [if_pos (by omega), if_pos l2]
    unfold atI
    rw [this]
    exact List.getElem?_eq_getElem hv
  refine ⟨ds[v.toNat], h', ?_, List.getElem_mem hv, A', f⟩
  have len : fLen [xs] h = .ok (.int ds.length) h := by
    rcases e with rfl | rfl <;> rfl
  have ix : fIx xs (.int v) h' = .ok ds[v.toNat] h' := by
    rcases e with rfl | rfl <;> simp [fIx, seqOf, ai]
  simp [F__law_pick, bodyF, startD, u__law_pick, len, e1, ix]
theorem b1_loop {a : D} : ∀ ns : List Int, ∃ ws : List Int, ws.length ≤ ns.length ∧ dLcL (gdName 2) (dB (dOp (fB fun i j => decide (i ≥ j)) (dCB fAbs (dCons (dVar 2) (dNil))) (dOp fPow (dC (.int 10)) (dC (.int 18))))) (dOp fSubI (dCB fAbs (dCons (dVar 2) (dNil))) (dOp fPow (dC (.int 10)) (dC (.int 18)))) [some a, none, none] (ns.map D.int) h = .ok (ws.map D.int) h
  | [] => ⟨[], Nat.le_refl _, rfl⟩
  | c :: ns => by
    obtain ⟨ws, l, e⟩ := b1_loop ns
    have cp : CPow 10 18 := by decide
    by_cases q : (if c < 0 then -c else c) ≥ 10 ^ (18 : Int).toNat
    · refine ⟨((if c < 0 then -c else c) - 10 ^ (18 : Int).toNat) :: ws, by simp; exact l, ?_⟩
      simp only [List.map_cons, dLcL]
      simp only [g_name, calm_ok, e_B, e_op, e_CB, e_cons, e_var, e_nil, e_C, List.set_cons_zero, List.set_cons_succ, List.getElem?_cons_zero, List.getElem?_cons_succ, bind_ok, fAbs, fPow, fB, if_pos cp, asB_bl, decide_eq_true q, if_true, fSubI]
      rw [e]
      rfl
    · refine ⟨ws, Nat.le_succ_of_le l, ?_⟩
      simp only [List.map_cons, dLcL]
      simp only [g_name, calm_ok, e_B, e_op, e_CB, e_cons, e_var, e_nil, e_C, List.set_cons_zero, List.set_cons_succ, List.getElem?_cons_zero, List.getElem?_cons_succ, bind_ok, fAbs, fPow, fB, if_pos cp, asB_bl, decide_eq_false q, Bool.false_eq_true, if_false]
      exact e
theorem b2_loop {a b : D} : ∀ ns : List Int, ∃ cs : List Int, cs.length = ns.length ∧ (∀ c, c ∈ cs → 0 ≤ c ∧ c < 2147483629) ∧ dLcL (gdName 2) dYes (dOp fMod (dCB fInt (dCons (dCB fAbs (dCons (dVar 2) (dNil))) (dNil))) (dC (.int 2147483629))) [some a, some b, none] (ns.map D.int) h = .ok (cs.map D.int) h
  | [] => ⟨[], rfl, fun _ h => (nomatch h), rfl⟩
  | c :: ns => by
    obtain ⟨cs, l, hc, e⟩ := b2_loop ns
    refine ⟨((if c < 0 then -c else c) % 2147483629) :: cs, by simp [l], fun y hy => ?_, ?_⟩
    · rcases List.mem_cons.mp hy with rfl | hy
      · exact ⟨Int.emod_nonneg _ (by decide), Int.emod_lt_of_pos _ (by decide)⟩
      · exact hc y hy
    · simp only [List.map_cons, dLcL, dYes]
      simp only [g_name, calm_ok, e_op, e_CB, e_cons, e_var, e_nil, e_C, List.set_cons_zero, List.set_cons_succ, List.getElem?_cons_zero, List.getElem?_cons_succ, bind_ok, fAbs, fInt, fMod, if_true, show ((0 : Int) < 2147483629) from by decide]
      rw [e]
      rfl
theorem begun_ok {ns : List Int} (hn : ns.length ≤ 63) : ∃ h', F__law_begun [.scr ns] h = .ok (.ref (h.nx + 1)) h' ∧ DrawOk (h.nx + 1) h.nx 1000000000 h' ∧ h'.nx = h.nx + 2 ∧ ∀ k, k < h.nx → h'.ob k = h.ob k := by
  obtain ⟨ws, lw, e1⟩ := b1_loop (h := h) (a := .scr ns) ns
  obtain ⟨cs, lc, hc, e2⟩ := b2_loop (h := h.new (.lst (ws.map D.int))) (a := .scr ns) (b := .ref h.nx) ns
  have sz : ns.length ≤ sizeLine := Nat.le_trans hn (by decide)
  refine ⟨(h.new (.lst (ws.map D.int))).new (.dct (drKvs h.nx cs 0 0)), ?_, ⟨ws, cs, 0, 0, ?_, ?_, by omega, by show h.nx + 1 < h.nx + 2; omega, by show h.nx < h.nx + 2; omega, hc, by omega, by omega, by decide, by decide⟩, rfl, fun k hk => ?_⟩
  · simp only [F__law_begun, bodyF, startD, u__law_begun]
    have i1 : itemsD h (.scr ns) = some (ns.map D.int) := rfl
    have i2 : itemsD (h.new (.lst (ws.map D.int))) (.scr ns) = some (ns.map D.int) := rfl
    have me : mergeD [] (drKvs h.nx cs 0 0) = drKvs h.nx cs 0 0 := by simp [mergeD, dPut, drKvs, s_wc, s_wr, s_wt, s_cr, s_ct, s_rt]
    simp only [List.map_cons, List.map_nil, List.length_cons, List.length_nil, List.cons_append, List.nil_append, s_seq, s_asg, dLc, e_seqI, e_var, List.getElem?_cons_zero, bind_ok, i1, List.length_map, if_pos sz, wipeD, List.replicate, List.set_cons_zero, List.set_cons_succ, e1, runl_none, mkL, toS_ok, g_name, put_ok, sbind_nx, s_ret, dDisp, dPairs, e_C, List.getElem?_cons_succ, i2, e2, keysOf, keyD]
    show ((if 4 ≤ 15 then mkD true (mergeD [] (drKvs h.nx cs 0 0)) _ else R.no).toS _ _).res = _
    rw [me]
    rfl
  · show (if h.nx + 1 = h.nx + 1 then _ else _) = _
    rw [if_pos rfl]
  · show (if h.nx = h.nx + 1 then _ else (if h.nx = h.nx then _ else _)) = _
    rw [if_neg (by omega), if_pos rfl]
  · show (if k = h.nx + 1 then _ else (if k = h.nx then _ else _)) = _
    rw [if_neg (by omega), if_neg (by omega)]
end
end CM
/-! readings as wishes: what a reading ends with -/
namespace CM
open PySem PySem.Spec PyProof.Rows L2

def R.sat {α : Type} (r : R α) (Q : α → CH → Prop) : Prop := match r with
  | .ok a h => Q a h
  | _ => False
/-- a statement goes on by N or returns by T -/
def RS.sat (r : RS) (N : DE → CH → Prop) (T : D → CH → Prop) : Prop := match r with
  | .nx ρ h => N ρ h
  | .rt d h => T d h
  | _ => False
/-- what comes behind a statement -/
def Kont (w : SD) (N : DE → CH → Prop) (T : D → CH → Prop) (ρ : DE) (h : CH) : Prop := (w ρ h).sat N T
section
variable {α β : Type} {a : α} {h : CH} {m : R α} {f : α → CH → R β} {g : α → CH → RS} {ρ : DE} {w u : SD} {d : D} {Q : β → CH → Prop} {P P' : α → CH → Prop} {N : DE → CH → Prop} {T : D → CH → Prop} {r : RS}
@[simp] theorem sat_ok : (R.ok a h).sat P = P a h := rfl
@[simp] theorem sat_no : (R.no : R α).sat P = False := rfl
@[simp] theorem sat_bind : (m.bind f).sat Q = m.sat fun a h => (f a h).sat Q := by cases m <;> rfl
@[simp] theorem sat_calm : (m.calm f).sat Q = m.sat fun a h => (f a h).sat Q := by cases m <;> rfl
@[simp] theorem sat_toS : (m.toS ρ g).sat N T = m.sat fun a h => (g a h).sat N T := by cases m <;> rfl
@[simp] theorem sat_put {m : R DE} : (m.put w).sat N T = m.sat fun ρ h => (w ρ h).sat N T := by cases m <;> rfl
@[simp] theorem sat_ite {c : Prop} [Decidable c] {m m' : R α} : (if c then m else m').sat P = if c then m.sat P else m'.sat P := by split <;> rfl
@[simp] theorem sat_iteS {c : Prop} [Decidable c] {r' : RS} : (if c then r else r').sat N T = if c then r.sat N T else r'.sat N T := by split <;> rfl
@[simp] theorem sat_nx : (RS.nx ρ h).sat N T = N ρ h := rfl
@[simp] theorem sat_rt : (RS.rt d h).sat N T = T d h := rfl
@[simp] theorem sat_noS : (RS.no).sat N T = False := rfl
@[simp] theorem sat_bindS : (r.bind w).sat N T = r.sat (Kont w N T) T := by cases r <;> rfl
@[simp] theorem sat_res {Q : D → CH → Prop} : r.res.sat Q = r.sat (fun _ h => Q .non h) Q := by cases r <;> rfl
@[simp] theorem sat_unl : (r.unl none).sat N T = r.sat N T := by rw [unl_none]
@[simp] theorem sat_unlR : (m.unl none).sat P = m.sat P := by rw [runl_none]
theorem R.sat.mono (x : m.sat P) (k : ∀ a h, P a h → P' a h) : m.sat P' := by
  cases m with
  | ok a h => exact k a h x
  | ex => exact x.elim
  | no => exact x.elim
theorem R.sat.ex (x : m.sat P) : ∃ a h, m = .ok a h ∧ P a h := by
  cases m with
  | ok a h => exact ⟨a, h, rfl, x⟩
  | ex => exact x.elim
  | no => exact x.elim
theorem sat_of {a : α} {h : CH} (e : m = .ok a h) (p : P a h) : m.sat P := by rw [e]; exact p
theorem RS.sat.mono {N' : DE → CH → Prop} {T' : D → CH → Prop} (x : r.sat N T) (k : ∀ ρ h, N ρ h → N' ρ h) (k' : ∀ d h, T d h → T' d h) : r.sat N' T' := by
  cases r with
  | nx => exact k _ _ x
  | rt => exact k' _ _ x
  | _ => exact x.elim
/-- for: an invariant of the items that are left -/
theorem sat_for {tg : TGD} (I : List D → DE → CH → Prop) (step : ∀ d r ρ h, I (d :: r) ρ h → (tg d ρ h).sat fun ρ h => (u ρ h).sat (I r) T) : ∀ {ds : List D} {ρ : DE} {h : CH}, I ds ρ h → (∀ ρ h, I [] ρ h → N ρ h) → (dForL tg u ds ρ h).sat N T
  | [], ρ, h, i, k => k ρ h i
  | d :: r, ρ, h, i, k => by
    obtain ⟨ρ1, h1, e1, x⟩ := (step d r ρ h i).ex
    show ((tg d ρ h).put _).sat N T
    rw [sat_put, e1]
    show (match u ρ1 h1 with
      | .nx ρ2 h2 => dForL tg u r ρ2 h2
      | .ct ρ2 h2 => dForL tg u r ρ2 h2
      | .bk ρ2 h2 => .nx ρ2 h2
      | x => x).sat N T
    cases e : u ρ1 h1 with
    | nx ρ2 h2 => rw [e] at x; exact sat_for I step x k
    | rt d2 h2 => rw [e] at x; exact x
    | _ => rw [e] at x; exact x.elim
theorem for_nil {tg : TGD} : (dForL tg u [] ρ h).sat N T = N ρ h := rfl
theorem for_cons {tg : TGD} {l : List D} (x : (tg d ρ h).sat fun ρ1 h1 => (u ρ1 h1).sat (Kont (dForL tg u l) N T) T) : (dForL tg u (d :: l) ρ h).sat N T := by
  obtain ⟨ρ1, h1, e1, x⟩ := x.ex
  show ((tg d ρ h).put _).sat N T
  rw [sat_put, e1]
  show (match u ρ1 h1 with
    | .nx ρ2 h2 => dForL tg u l ρ2 h2
    | .ct ρ2 h2 => dForL tg u l ρ2 h2
    | .bk ρ2 h2 => .nx ρ2 h2
    | x => x).sat N T
  cases e : u ρ1 h1 with
  | nx ρ2 h2 => rw [e] at x; exact x
  | rt d2 h2 => rw [e] at x; exact x
  | _ => rw [e] at x; exact x.elim
/-- while: an invariant with a measure -/
theorem sat_while {c : TB} (I : Nat → DE → CH → Prop) (step : ∀ n ρ h, I n ρ h → (c ρ h).sat fun b h1 => if b = true then ∃ n', n = n' + 1 ∧ (u ρ h1).sat (I n') T else N ρ h1) : ∀ {n k : Nat} {ρ : DE} {h : CH}, n < k → I n ρ h → (dWhile c u k ρ h).sat N T
  | n, 0, ρ, h, l, i => absurd l (Nat.not_lt_zero _)
  | n, k + 1, ρ, h, l, i => by
    obtain ⟨b, h1, e1, x⟩ := (step n ρ h i).ex
    show ((c ρ h).toS ρ _).sat N T
    rw [sat_toS, e1]
    cases b with
    | false => exact x
    | true =>
      obtain ⟨n', rfl, x⟩ := x
      show (match u ρ h1 with
        | .nx ρ2 h2 => dWhile c u k ρ2 h2
        | .ct ρ2 h2 => dWhile c u k ρ2 h2
        | .bk ρ2 h2 => .nx ρ2 h2
        | x => x).sat N T
      cases e : u ρ h1 with
      | nx ρ2 h2 => rw [e] at x; exact sat_while I step (by omega) x
      | rt d2 h2 => rw [e] at x; exact x
      | _ => rw [e] at x; exact x.elim
/-- a comprehension: what was made so far and what is left -/
theorem sat_lcl {tg : TGD} {tt : TB} {te : TD} {ρ0 : DE} {Q : List D → CH → Prop} (I : List D → List D → CH → Prop) (step : ∀ d r ys h, I (d :: r) ys h → (tg d ρ0 h).sat fun ρ2 h => (tt ρ2 h).sat fun b h => if b = true then (te ρ2 h).sat fun y h => I r (ys ++ [y]) h else I r ys h) :
    ∀ {ds ys : List D} {h : CH}, I ds ys h → (∀ zs h, I [] zs h → ∀ l, zs = ys ++ l → Q l h) → (dLcL tg tt te ρ0 ds h).sat Q
  | [], ys, h, i, k => k ys h i [] (by simp)
  | d :: r, ys, h, i, k => by
    have st := step d r ys h i
    obtain ⟨ρ2, h1, e1, st⟩ := st.ex
    obtain ⟨b, h2, e2, st⟩ := st.ex
    show ((tg d ρ0 h).calm _).sat Q
    rw [sat_calm, e1]
    show ((tt ρ2 h1).calm _).sat Q
    rw [sat_calm, e2]
    cases b with
    | true =>
      obtain ⟨y, h3, e3, st⟩ := R.sat.ex (show (te ρ2 h2).sat _ from st)
      show (if true = true then (te ρ2 h2).calm _ else _ : R (List D)).sat Q
      rw [if_pos rfl, sat_calm, e3]
      show ((dLcL tg tt te ρ0 r h3).bind _).sat Q
      rw [sat_bind]
      exact sat_lcl I step st fun zs h i l e => k zs h i (y :: l) (by rw [e]; simp)
    | false =>
      show (if false = true then _ else dLcL tg tt te ρ0 r h2 : R (List D)).sat Q
      rw [if_neg Bool.false_ne_true]
      exact sat_lcl I step st k
end
/-! ### the draws -/
section
variable {r w n m : Nat} {h h1 : CH}
theorem DrawOk.mono (A : DrawOk r w n h) (l : m ≤ n) : DrawOk r w m h := by
  obtain ⟨ws, cs, x, t, A⟩ := A
  exact ⟨ws, cs, x, t, A.or_, A.ow, A.ne, A.lr, A.lw, A.cs_, A.lws, A.lcs, A.t0, by have := A.tn; omega⟩
/-- the draws are not touched -/
theorem DrawOk.keep (A : DrawOk r w n h) (nx : h.nx ≤ h1.nx) (k : ∀ j, j = r ∨ j = w → h1.ob j = h.ob j) : DrawOk r w n h1 := by
  obtain ⟨ws, cs, x, t, A⟩ := A
  exact ⟨ws, cs, x, t, by rw [k r (.inl rfl)]; exact A.or_, by rw [k w (.inr rfl)]; exact A.ow, A.ne, Nat.lt_of_lt_of_le A.lr nx, Nat.lt_of_lt_of_le A.lw nx, A.cs_, A.lws, A.lcs, A.t0, A.tn⟩
theorem DrawOk.lt (A : DrawOk r w n h) : r < h.nx ∧ w < h.nx := by
  obtain ⟨ws, cs, x, t, A⟩ := A
  exact ⟨A.lr, A.lw⟩
theorem take_sat (A : DrawOk r w (n + 1) h) {s : Int} (hs : 0 < s) (hs2 : s < 1073741824) : (F__law_take [.ref r, .int s] h).sat fun d h1 => ∃ v, d = .int v ∧ 0 ≤ v ∧ v < s ∧ DrawOk r w n h1 ∧ DrFr r w h h1 := by
  obtain ⟨v, h1, e, p⟩ := take_ok A hs hs2
  exact sat_of e ⟨v, rfl, p⟩
theorem pick_sat (A : DrawOk r w (n + 1) h) {xs : D} {ds : List D} (e : xs = .lst ds ∨ xs = .tup ds) (h0 : ds ≠ []) (h1 : ds.length < 1073741824) : (F__law_pick [.ref r, xs] h).sat fun d h1 => d ∈ ds ∧ DrawOk r w n h1 ∧ DrFr r w h h1 := by
  obtain ⟨d, h1, e, p⟩ := pick_ok A e h0 h1
  exact sat_of e p
end
end CM
/-! lists of texts; repr of short things -/
namespace CM
open PySem PySem.Spec PyProof.Rows L2

section
variable {h : CH}
theorem toP_strs {k : Nat} : ∀ ns : List Str, (ns.map D.str).mapM (toP h (k + 1)) = some (ns.map PyData.str)
  | [] => rfl
  | n :: ns => by
    rw [List.map_cons, List.mapM_cons, toP_strs ns]
    rfl
abbrev Layd (ns : List Str) : Prop := ∀ x, x ∈ ns → PyData.strOk x = true
theorem lay_strs : ∀ ns : List Str, Layd ns → PyData.canLayAll0 (ns.map PyData.str) = true
  | [], _ => rfl
  | n :: ns, ok => by simp only [List.map_cons, PyData.canLayAll0, PyData.canLay0, ok n (List.mem_cons_self ..), lay_strs ns fun x hx => ok x (List.mem_cons_of_mem _ hx), Bool.and_self]
theorem dep_strs : ∀ ns : List Str, PyData.depthAll (ns.map PyData.str) = 0
  | [] => rfl
  | n :: ns => by simp only [List.map_cons, PyData.depthAll, PyData.depth, dep_strs ns]; rfl
theorem shaped_strs (ns : List Str) (ok : Layd ns) : SeqAt.shaped (.list (ns.map PyData.str)) = true := by
  simp only [SeqAt.shaped, PyData.canLay0, lay_strs ns ok, PyData.depth, dep_strs, Bool.true_and]
  decide
theorem shapedT_strs (ns : List Str) (ok : Layd ns) : SeqAt.shaped (.tuple (ns.map PyData.str)) = true := by
  simp only [SeqAt.shaped, PyData.canLay0, lay_strs ns ok, PyData.depth, dep_strs, Bool.true_and]
  decide
/-- a list of texts against the empty one -/
theorem ne_nil_strs {k : Nat} {ws : List Str} (ok : Layd ws) (e : h.ob k = some (.lst (ws.map D.str))) : fEq true (.ref k) (.lst []) h = .ok (.bl (!ws.isEmpty)) h := by
  have e1 : toP h 10 (.ref k) = some (.list (ws.map PyData.str)) := by
    rw [toP_ref (n := 9) e, toP_strs (h := h) (k := 8) ws]
    rfl
  have e2 : toP h 10 (.lst []) = some (.list []) := rfl
  have e3 : SeqAt.shaped (.list []) = true := shaped_strs [] fun x hx => (nomatch hx)
  have e4 : PyData.eqv (.list (ws.map PyData.str)) (.list []) = ws.isEmpty := by
    cases ws with
    | nil => rfl
    | cons a l => rfl
  have e5 : scalD (.ref k) (.lst []) = false := rfl
  unfold fEq
  rw [e5, e1, e2]
  simp [shaped_strs ws ok, e3, e4, bneg]
theorem eqvAll_self : ∀ ns : List Str, PyData.eqvAll (ns.map PyData.str) (ns.map PyData.str) = true
  | [] => rfl
  | n :: ns => by simp [PyData.eqvAll, PyData.eqv, eqvAll_self ns]
/-- a tuple of texts equals itself -/
theorem eq_tupS {neg : Bool} (ws : List Str) (ok : Layd ws) : fEq neg (.tup (ws.map D.str)) (.tup (ws.map D.str)) h = .ok (.bl (bneg neg true)) h := by
  have e1 : toP h 10 (.tup (ws.map D.str)) = some (.tuple (ws.map PyData.str)) := by
    show ((ws.map D.str).mapM (toP h 9)).map PyData.tuple = _
    rw [toP_strs (h := h) (k := 8) ws]
    rfl
  have e5 : scalD (.tup (ws.map D.str)) (.tup (ws.map D.str)) = false := rfl
  unfold fEq
  rw [e5, e1]
  simp [shapedT_strs ws ok, PyData.eqv, eqvAll_self]
end
/-! ### how long a text is -/
theorem textFrom_le : ∀ (ts : List Str) (k : Nat) (acc : Str), (textFrom k acc ts).length ≤ acc.length + (ts.map fun t => t.length + 2).sum
  | [], k, acc => by simp [textFrom]
  | t :: r, k, acc => by
    have ih := textFrom_le r (k + 1) (acc ++ (if k > 0 then ", " else "" : String) ++ t)
    have e : (acc ++ (if k > 0 then ", " else "" : String) ++ t).length ≤ acc.length + 2 + t.length := by
      rw [strLen_append, strLen_append]
      have : ((if k > 0 then ", " else "" : String) : Str).length ≤ 2 := by split <;> decide
      omega
    simp only [List.map_cons, List.sum_cons]
    refine Nat.le_trans ih ?_
    omega
theorem listText_le (ts : List Str) : (listText ts).length ≤ 2 + (ts.map fun t => t.length + 2).sum := by
  have := textFrom_le ts 0 "["
  unfold listText
  rw [strLen_append]
  have e1 : (("[" : String) : Str).length = 1 := rfl
  have e2 : (("]" : String) : Str).length = 1 := rfl
  omega
theorem piled_le : ∀ ts : List Str, piled ts ≤ (ts.map fun t => t.length + 2).sum
  | [] => by simp [piled]
  | t :: r => by
    have := piled_le r
    rw [piled_cons, List.map_cons, List.sum_cons]
    omega
theorem tupleText_le (ts : List Str) : (tupleText ts).length ≤ 5 + (ts.map fun t => t.length + 2).sum := by
  unfold tupleText
  rw [strLen_append, strLen_append]
  have e1 : (("(" : String) : Str).length = 1 := rfl
  have e2 : ((if ts.length == 1 then ",)" else ")" : String) : Str).length ≤ 2 := by split <;> decide
  have e3 : (Str.join ", " ts).length ≤ (ts.map fun t => t.length + 2).sum := by
    cases ts with
    | nil => decide
    | cons t r =>
      have := join_length_add (t :: r) (by simp)
      have := piled_le (t :: r)
      omega
  omega
theorem sum_le {c : Nat} : ∀ (ts : List Str), (∀ t, t ∈ ts → t.length ≤ c) → (ts.map fun t => t.length + 2).sum ≤ ts.length * (c + 2)
  | [], _ => by simp
  | t :: r, h => by
    have h1 := h t (List.mem_cons_self ..)
    have h2 := sum_le r fun t ht => h t (List.mem_cons_of_mem _ ht)
    simp only [List.map_cons, List.sum_cons, List.length_cons]
    rw [Nat.succ_mul]
    omega
theorem shownAll_map (ps : List PyData) : PyData.shownAll ps = ps.map PyData.shown := by
  induction ps with
  | nil => rfl
  | cons p ps ih => simp [PyData.shownAll, ih]
theorem showableAll_iff (ps : List PyData) : PyData.showableAll ps = ps.all PyData.showable := by
  induction ps with
  | nil => rfl
  | cons p ps ih => simp [PyData.showableAll, ih]
theorem fRepr_ok {h : CH} {d : D} {xs : List D} {p : PyData} (e : seqOf h d = some xs) (e2 : toP h 12 d = some p) (s1 : p.showable = true) (s2 : p.depth ≤ 60) (s3 : p.shown.length ≤ sizeLine) : fRepr [d] h = .ok (.str p.shown) h := by
  unfold fRepr
  simp only [e, e2]
  rw [if_pos ⟨s1, s2, s3⟩]
/-- texts, then tuples of texts -/
def rowD (ws : List Str) (ts : List (List Str)) : D := .lst (ws.map D.str ++ ts.map fun t => .tup (t.map D.str))
def rowP (ws : List Str) (ts : List (List Str)) : PyData := .list (ws.map PyData.str ++ ts.map fun t => .tuple (t.map PyData.str))
theorem mapM_app {α β : Type} (f : α → Option β) : ∀ (l l' : List α) (r r' : List β), l.mapM f = some r → l'.mapM f = some r' → (l ++ l').mapM f = some (r ++ r')
  | [], l', r, r', e, e' => by simp at e; subst e; exact e'
  | a :: l, l', r, r', e, e' => by
    simp only [List.mapM_cons, Option.bind_eq_bind, Option.bind_eq_some_iff, Option.pure_def, Option.some.injEq] at e
    obtain ⟨b, e1, bs, e2, rfl⟩ := e
    simp only [List.cons_append, List.mapM_cons, e1, mapM_app f l l' bs r' e2 e', Option.bind_eq_bind, Option.bind_some, Option.pure_def]
theorem row_toP {h : CH} {k : Nat} (ws : List Str) (ts : List (List Str)) : toP h (k + 3) (rowD ws ts) = some (rowP ws ts) := by
  show ((ws.map D.str ++ ts.map fun t => D.tup (t.map D.str)).mapM (toP h (k + 2))).map PyData.list = _
  have e2 : (ts.map fun t => D.tup (t.map D.str)).mapM (toP h (k + 2)) = some (ts.map fun t => PyData.tuple (t.map PyData.str)) := by
    induction ts with
    | nil => rfl
    | cons t ts ih =>
      have e3 : toP h (k + 2) (.tup (t.map D.str)) = some (.tuple (t.map PyData.str)) := by
        show ((t.map D.str).mapM (toP h (k + 1))).map PyData.tuple = _
        rw [toP_strs]
        rfl
      simp only [List.map_cons, List.mapM_cons, e3, ih, Option.bind_eq_bind, Option.bind_some, Option.pure_def]
  rw [mapM_app _ _ _ _ _ (toP_strs ws) e2]
  rfl
theorem row_repr {h : CH} (ws : List Str) (ts : List (List Str)) (hw : ws.length ≤ 100) (ht : ts.length ≤ 100) (h1 : ∀ x, x ∈ ws → (reprText x).length ≤ 50) (h2 : ∀ t, t ∈ ts → t.length ≤ 100 ∧ ∀ x, x ∈ t → (reprText x).length ≤ 50) :
    fRepr [rowD ws ts] h = .ok (.str (rowP ws ts).shown) h := by
  have tl : ∀ t : List Str, t.length ≤ 100 → (∀ x, x ∈ t → (reprText x).length ≤ 50) → (tupleText (t.map reprText)).length ≤ 5205 := fun t l q => by
    have a := tupleText_le (t.map reprText)
    have b := sum_le (c := 50) (t.map reprText) (fun y hy => by
      obtain ⟨x, hx, rfl⟩ := List.mem_map.mp hy
      exact q x hx)
    rw [List.length_map] at b
    omega
  have sS : ∀ ws : List Str, (ws.map PyData.str).map PyData.shown = ws.map reprText := fun ws => by
    rw [List.map_map]
    exact List.map_congr_left fun x _ => by simp [PyData.shown]
  have sT : (ts.map fun t => PyData.tuple (t.map PyData.str)).map PyData.shown = ts.map fun t => tupleText (t.map reprText) := by
    rw [List.map_map]
    refine List.map_congr_left fun t _ => ?_
    show PyData.shown (.tuple (t.map PyData.str)) = _
    rw [PyData.shown, shownAll_map, sS]
  refine fRepr_ok (xs := ws.map D.str ++ ts.map fun t => .tup (t.map D.str)) rfl (row_toP (k := 9) ws ts) ?_ ?_ ?_
  · show PyData.showableAll (ws.map PyData.str ++ ts.map fun t => PyData.tuple (t.map PyData.str)) = true
    rw [showableAll_iff, List.all_append, Bool.and_eq_true]
    refine ⟨List.all_eq_true.mpr fun p hp => ?_, List.all_eq_true.mpr fun p hp => ?_⟩
    · obtain ⟨x, _, rfl⟩ := List.mem_map.mp hp
      rfl
    · obtain ⟨t, _, rfl⟩ := List.mem_map.mp hp
      show PyData.showableAll (t.map PyData.str) = true
      rw [showableAll_iff]
      refine List.all_eq_true.mpr fun p hp => ?_
      obtain ⟨x, _, rfl⟩ := List.mem_map.mp hp
      rfl
  · have d1 : ∀ (l : List PyData), (∀ p, p ∈ l → p.depth ≤ 1) → PyData.depthAll l ≤ 2 := by
      intro l
      induction l with
      | nil => intro _; simp [PyData.depthAll]
      | cons p l ih =>
        intro q
        have a := q p (List.mem_cons_self ..)
        have b := ih fun x hx => q x (List.mem_cons_of_mem _ hx)
        simp only [PyData.depthAll]
        omega
    have d2 : PyData.depthAll (ws.map PyData.str ++ ts.map fun t => PyData.tuple (t.map PyData.str)) ≤ 2 := d1 _ fun p hp => by
      rcases List.mem_append.mp hp with hp | hp
      · obtain ⟨x, _, rfl⟩ := List.mem_map.mp hp
        simp [PyData.depth]
      · obtain ⟨t, _, rfl⟩ := List.mem_map.mp hp
        simp [PyData.depth, dep_strs]
    simp only [rowP, PyData.depth]
    omega
  · simp only [rowP, PyData.shown, shownAll_map, List.map_append, sS, sT]
    have a := listText_le (ws.map reprText ++ ts.map fun t => tupleText (t.map reprText))
    have b := sum_le (c := 5205) (ws.map reprText ++ ts.map fun t => tupleText (t.map reprText)) (fun y hy => by
      rcases List.mem_append.mp hy with hy | hy
      · obtain ⟨x, hx, rfl⟩ := List.mem_map.mp hy
        exact Nat.le_trans (h1 x hx) (by decide)
      · obtain ⟨t, ht, rfl⟩ := List.mem_map.mp hy
        exact tl t (h2 t ht).1 (h2 t ht).2)
    rw [List.length_append, List.length_map, List.length_map] at b
    have : (ws.length + ts.length) * (5205 + 2) ≤ 200 * 5207 := Nat.mul_le_mul (by omega) (by decide)
    rw [sizeLine_eq]
    omega
end CM
/-! sequences of texts as arguments -/
namespace CM
open PySem PySem.Spec PyProof.Rows L2

abbrev stL (l : List Str) : List D := l.map D.str
/-- a list (named or free) or a tuple of these texts -/
def SeqS (h : CH) (X : D) (l : List Str) : Prop := (∃ k, X = .ref k ∧ h.ob k = some (.lst (stL l))) ∨ X = .lst (stL l) ∨ X = .tup (stL l)
section
variable {h : CH} {X : D} {l ws : List Str}
theorem SeqS.seq (s : SeqS h X l) : seqOf h X = some (stL l) := by
  rcases s with ⟨k, rfl, e⟩ | rfl | rfl
  · simp only [seqOf, e]
  · rfl
  · rfl
theorem strsOf_st : ∀ l : List Str, strsOf (stL l) = some l
  | [] => rfl
  | x :: l => by
    show (match strsOf (stL l) with | some is => some (x :: is) | none => none) = _
    rw [strsOf_st l]
theorem ded_app : ∀ (l acc : List Str), (acc ++ l).Nodup → l.foldl (fun acc x => if x ∈ acc then acc else acc ++ [x]) acc = acc ++ l
  | [], acc, _ => by simp
  | x :: l, acc, nd => by
    have nx : x ∉ acc := fun z => by
      rw [List.nodup_append] at nd
      exact nd.2.2 x z x (List.mem_cons_self ..) rfl
    rw [List.foldl_cons, if_neg nx, ded_app l (acc ++ [x]) (by simpa using nd)]
    simp
theorem ded_nodup (nd : l.Nodup) : ded l = l := by
  have := ded_app l [] (by simpa using nd)
  simpa [ded] using this
theorem fLenS_ok (s : SeqS h X l) (nd : l.Nodup) (hl : l.length < 1000) : fLenS X h = .ok (.int l.length) h := by
  unfold fLenS
  rw [s.seq]
  simp only [strsOf_st]
  rw [if_pos hl, ded_nodup nd]
theorem fLen_ok (s : SeqS h X l) : fLen [X] h = .ok (.int l.length) h := by
  have e := s.seq
  rcases s with ⟨k, rfl, _⟩ | rfl | rfl
  · simp [fLen, e]
  · simp [fLen, e]
  · simp [fLen, e]
theorem fSrt_ok (s : SeqS h X l) (hl : l.length < 64) : fSrt false [X] h = .ok (.lst (stL (sortS l))) h := by
  unfold fSrt
  simp only [s.seq]
  cases l with
  | nil => rfl
  | cons x l =>
    have e1 : intsOf (stL (x :: l)) = none := rfl
    simp only [e1, strsOf_st]
    rw [if_pos hl]
    rfl
theorem fIn_ok {x : Str} (m : x ∈ ws) {neg : Bool} : fIn neg (.str x) (.tup (stL ws)) h = .ok (.bl (bneg neg true)) h := by
  unfold fIn
  have e1 : seqOf h (.tup (stL ws)) = some (stL ws) := rfl
  have e2 : (stL ws).all flatD = true := by simp [flatD]
  have e3 : (stL ws).any (fun e => eqF e (.str x)) = true := by
    rw [List.any_eq_true]
    exact ⟨.str x, List.mem_map.mpr ⟨x, m, rfl⟩, by simp [eqF]⟩
  simp only [e1]
  rw [if_pos ⟨rfl, e2⟩, e3]
theorem CH.ext' {h h' : CH} (a : h.nx = h'.nx) (b : ∀ k, h.ob k = h'.ob k) : h = h' := by
  obtain ⟨n, o⟩ := h
  obtain ⟨n', o'⟩ := h'
  cases a
  have : o = o' := funext b
  rw [this]
theorem put_id {k : Nat} {o : MO} (e : h.ob k = some o) : h.put k o = h := CH.ext' rfl fun j => by
  by_cases z : j = k
  · subst z; rw [put_same, e]
  · rw [put_ne z]
theorem put_put {k : Nat} {o o' : MO} : (h.put k o).put k o' = h.put k o' := CH.ext' rfl fun j => by
  by_cases z : j = k
  · subst z; rw [put_same, put_same]
  · rw [put_ne z, put_ne z, put_ne z]
theorem sat_unlG {r : RS} {u : Unl} {N : DE → CH → Prop} {T : D → CH → Prop} : (r.unl u).sat N T = r.sat (fun ρ h => N ρ (unlH u h)) (fun d h => T d (unlH u h)) := by cases r <;> rfl
/-- a walk over such a sequence, whose body leaves the heap as it is -/
theorem sat_walk {tg : TGD} {u : SD} {N : DE → CH → Prop} {T : D → CH → Prop} {ta : TD} {ρ : DE} (s : SeqS h X l) (ea : ta ρ h = .ok X h) (I : List Str → DE → Prop) (i0 : I l ρ)
    (step : ∀ x r ρ h', I (x :: r) ρ → (tg (.str x) ρ h').sat fun ρ1 h1 => h1 = h' ∧ (u ρ1 h1).sat (fun ρ2 h2 => h2 = h' ∧ I r ρ2) (fun _ _ => False)) (fin : ∀ ρ, I [] ρ → N ρ h) : (dFor (dSeqI ta) tg u ρ h).sat N T := by
  have loop : ∀ (h' : CH), (dForL tg u (stL l) ρ h').sat (fun ρ' h2 => h2 = h' ∧ I [] ρ') (fun _ _ => False) := fun h' =>
    sat_for (I := fun rest ρ' h2 => h2 = h' ∧ ∃ r, rest = stL r ∧ I r ρ') (fun d r ρ1 h2 ⟨e, q, eq, i⟩ => by
      subst e
      cases q with
      | nil => cases eq
      | cons x q =>
        cases eq
        refine (step x q ρ1 h2 i).mono ?_
        rintro ρ2 h3 ⟨rfl, y⟩
        exact y.mono (fun ρ3 h4 ⟨e, i⟩ => ⟨e, q, rfl, i⟩) fun _ _ z => z.elim) ⟨rfl, l, rfl, i0⟩ fun ρ' h2 ⟨e, r, er, i⟩ => ⟨e, by
        cases r with
        | nil => exact i
        | cons => cases er⟩
  rw [s_for, sat_toS, e_seqI, sat_bind, ea, sat_ok]
  rcases s with ⟨k, rfl, e⟩ | rfl | rfl
  · show (lockD (.ref k) h).sat _
    unfold lockD
    simp only [e]
    rw [sat_ok, sat_unlG]
    refine (loop _).mono ?_ fun _ _ z => z.elim
    rintro ρ' h2 ⟨rfl, i⟩
    show N ρ' ((h.put k _).put k _)
    rw [put_put, put_id e]
    exact fin ρ' i
  · show (R.ok (stL l, none) h : R (List D × Unl)).sat _
    rw [sat_ok, sat_unlG]
    exact (loop h).mono (fun ρ' h2 ⟨e, i⟩ => by subst e; exact fin ρ' i) fun _ _ z => z.elim
  · show (R.ok (stL l, none) h : R (List D × Unl)).sat _
    rw [sat_ok, sat_unlG]
    exact (loop h).mono (fun ρ' h2 ⟨e, i⟩ => by subst e; exact fin ρ' i) fun _ _ z => z.elim
end
end CM
namespace W_whilemerged_k02_books_made
open PySem PySem.Spec PyProof.Rows L2 CM
def top (i : Nat) : Stmt := PySem.Challenge.pw_whilemerged_k02_books_made.main.body.getD i (.Pass ⟨0, 0, 0, 0⟩)
abbrev s__law_begun : Stmt := top 24
abbrev s__law_mixed : Stmt := top 25
abbrev s__law_take : Stmt := top 26
abbrev s__law_pick : Stmt := top 27
abbrev s__law_shuffled : Stmt := top 19
abbrev s__law_all_words : Stmt := top 21
abbrev s__law_near : Stmt := top 29
abbrev s__law_odd : Stmt := top 28
abbrev s_need_word : Stmt := top 15
abbrev s_need_words : Stmt := top 16
abbrev s_Book_init : Stmt := inClass (top 17) 0
abbrev s__law_made : Stmt := top 22
abbrev s__law_due : Stmt := top 23
abbrev s_Book_eq : Stmt := inClass (top 17) 9
abbrev s_Book_bars : Stmt := inClass (top 17) 7
abbrev s_is_kind : Stmt := top 14
abbrev s_Book_up : Stmt := inClass (top 17) 1
abbrev s_Book_down : Stmt := inClass (top 17) 2
abbrev s_Book_writes : Stmt := inClass (top 17) 3
abbrev s_Book_moves : Stmt := inClass (top 17) 4
abbrev s_Book_finish : Stmt := inClass (top 17) 5
abbrev s_Book_counts : Stmt := inClass (top 17) 6
abbrev s_Book_notes : Stmt := inClass (top 17) 8
abbrev s__law_all_fields : Stmt := top 20
abbrev s_law : Stmt := top 30
structure Txt (mg : Str → Option Value) : Prop where
  z_abs : mg "abs" = none
  z_int : mg "int" = none
  z_len : mg "len" = none
  z_list : mg "list" = none
  z_dict : mg "dict" = none
  z_isinstance : mg "isinstance" = none
  z_str : mg "str" = none
  z_tuple : mg "tuple" = none
  z_set : mg "set" = none
  z_sorted : mg "sorted" = none
  z_range : mg "range" = none
  z_min : mg "min" = none
  z_repr : mg "repr" = none
structure Cst (K : PySem.W.Frag) (CA : Nat → Addr) (mg : Str → Option Value) : Prop where
  g_UPS : GV K CA mg "UPS" (.tup [.str "one", .str "late", .str "blind"])
  g_DOWNS : GV K CA mg "DOWNS" (.tup [.str "one", .str "two"])
  g_WRITES : GV K CA mg "WRITES" (.tup [.str "plain", .str "both", .str "again", .str "behind", .str "refused"])
  g_MOVES : GV K CA mg "MOVES" (.tup [.str "now", .str "first"])
  g_FINISHES : GV K CA mg "FINISHES" (.tup [.str "one", .str "link", .str "cut"])
  g_COUNTS : GV K CA mg "COUNTS" (.tup [.str "last", .str "first", .str "never"])
  g_BARS : GV K CA mg "BARS" (.tup [.str "cover", .str "lower", .str "open", .str "others", .str "upper"])
  g_NOTES : GV K CA mg "NOTES" (.tup [.str "again", .str "job", .str "place"])
  g_KINDS : GV K CA mg "KINDS" (.tup [.str "down", .str "up"])
  g_Book : GV K CA mg "Book" (.cls 0)
structure Fld (K : PySem.W.Frag) (CA : Nat → Addr) : Prop where
  x_b_words : FldOf K CA [0] "b_words"
  x_b_bars : FldOf K CA [0] "b_bars"
  x_b_notes : FldOf K CA [0] "b_notes"
--READINGS--
def u__law_shuffled : SD := dSeq (dPar 2 3 (dCons (dCB (fListOf true) (dCons (dVar 1) (dNil))) (dCons (dLst true (dNil)) (dNil)))) (dSeq (dWhile (dB (dOp (fEq true) (dVar 2) (dLst false (dNil)))) (dDrop (dBM "list" fAppend (dVar 3) (dCons (dBM "list" fPopAt (dVar 2) (dCons (dCall 2 F__law_take (dCons (dVar 0) (dCons (dCB fLen (dCons (dVar 2) (dNil))) (dNil)))) (dNil))) (dNil)))) 1000000) (dRet (dVar 3)))
def F__law_shuffled : FD := bodyF 4 u__law_shuffled
def u__law_all_words : SD := dSeq (dAsg (dDisp true [(dC (.str "up"), dCall 2 F__law_pick (dCons (dVar 0) (dCons (dLst false (dCons (dC (.str "one")) (dCons (dC (.str "late")) (dCons (dC (.str "blind")) (dNil))))) (dNil)))), (dC (.str "down"), dCall 2 F__law_pick (dCons (dVar 0) (dCons (dLst false (dCons (dC (.str "one")) (dCons (dC (.str "two")) (dNil)))) (dNil))))]) (gdName 1)) (dSeq (dAsg (dCall 2 F__law_pick (dCons (dVar 0) (dCons (dLst false (dCons (dC (.str "plain")) (dCons (dC (.str "both")) (dCons (dC (.str "again")) (dCons (dC (.str "behind")) (dCons (dC (.str "refused")) (dNil))))))) (dNil)))) (gdSub (dVar 1) (dC (.str "writes")))) (dSeq (dAsg (dTup (dCons (dCall 2 F__law_pick (dCons (dVar 0) (dCons (dLst false (dCons (dC (.str "now")) (dCons (dC (.str "first")) (dNil)))) (dNil)))) (dCons (dCall 2 F__law_pick (dCons (dVar 0) (dCons (dLst false (dCons (dC (.str "one")) (dCons (dC (.str "link")) (dCons (dC (.str "cut")) (dNil))))) (dNil)))) (dNil)))) (gdTup 2 (gdCons (gdSub (dVar 1) (dC (.str "moves"))) (gdCons (gdSub (dVar 1) (dC (.str "finish"))) (gdNil))))) (dSeq (dAsg (dCall 2 F__law_pick (dCons (dVar 0) (dCons (dLst false (dCons (dC (.str "last")) (dCons (dC (.str "first")) (dCons (dC (.str "never")) (dNil))))) (dNil)))) (gdSub (dVar 1) (dC (.str "counts")))) (dSeq (dFor (dSeqI (dLst false (dCons (dTup (dCons (dC (.str "bars")) (dCons (dLst false (dCons (dC (.str "cover")) (dCons (dC (.str "lower")) (dCons (dC (.str "open")) (dCons (dC (.str "others")) (dCons (dC (.str "upper")) (dNil))))))) (dNil)))) (dCons (dTup (dCons (dC (.str "notes")) (dCons (dLst false (dCons (dC (.str "again")) (dCons (dC (.str "job")) (dCons (dC (.str "place")) (dNil))))) (dNil)))) (dNil))))) (gdTup 2 (gdCons (gdName 2) (gdCons (gdName 3) (gdNil)))) (dAsg (dCall 2 F__law_shuffled (dCons (dVar 0) (dCons (dLc false (dSeqI (dVar 3)) (gdName 4) (dB (dOp (fEq false) (dCall 2 F__law_take (dCons (dVar 0) (dCons (dC (.int 2)) (dNil)))) (dC (.int 0)))) (dVar 4) [4]) (dNil)))) (gdSub (dVar 1) (dVar 2)))) (dRet (dUn fzI (dVar 1)))))))
def F__law_all_words : FD := bodyF 5 u__law_all_words
def u__law_near : SD := dSeq (dPar 2 3 (dCons (dCall 1 F__law_all_words (dCons (dVar 0) (dNil))) (dCons (dCB (fDctOf true) (dCons (dVar 1) (dNil))) (dNil)))) (dSeq (dAsg (dCall 2 F__law_pick (dCons (dVar 0) (dCons (dLst false (dCons (dC (.str "up")) (dCons (dC (.str "down")) (dCons (dC (.str "writes")) (dCons (dC (.str "moves")) (dCons (dC (.str "finish")) (dCons (dC (.str "counts")) (dCons (dC (.str "bars")) (dCons (dC (.str "notes")) (dNil)))))))))) (dNil)))) (gdName 4)) (dSeq (dAsg (dOp fIx (dVar 2) (dVar 4)) (gdSub (dVar 3) (dVar 4))) (dRet (dUn fzI (dVar 3)))))
def F__law_near : FD := bodyF 5 u__law_near
def u__law_odd : SD := dSeq (dAsg (dLst false (dCons (dC .non) (dCons (dC (.bl true)) (dCons (dC (.bl false)) (dCons (dUn fNeg (dC (.int 1))) (dCons (dC (.int 41)) (dCons (dOp fPow (dC (.int 10)) (dC (.int 30))) (dCons (dC (.str "")) (dCons (dC (.str "up")) (dCons (dC (.str "down")) (dCons (dC (.str "job")) (dCons (dC (.str "a")) (dCons (dTup (dNil)) (dCons (dTup (dCons (dC (.int 0)) (dNil))) (dCons (dLst false (dNil)) (dCons (dLst false (dCons (dC (.int 1)) (dNil))) (dCons (dDNew false) (dCons (dDisp false [(dC (.int 1), dC (.int 2))]) (dNil))))))))))))))))))) (gdName 1)) (dRet (dCall 2 F__law_pick (dCons (dVar 0) (dCons (dOp (fAdd false) (dVar 1) (dLst false (dCons (dTup (dCons (dC (.str "stop")) (dNil))) (dCons (dTup (dCons (dC (.str "cover")) (dCons (dC (.int 0)) (dNil)))) (dCons (dLst false (dCons (dTup (dCons (dC (.str "stop")) (dNil))) (dNil))) (dCons (dC (.str "both")) (dCons (dC (.str "stop\n")) (dCons (dTup (dCons (dC (.int 1)) (dCons (dC (.int 0)) (dCons (dC (.int 0)) (dNil))))) (dCons (dC (.int 0)) (dCons (dC (.int 1)) (dNil))))))))))) (dNil)))))
def F__law_odd : FD := bodyF 2 u__law_odd
def u_need_word : SD := dIfS (dOr (dNot (dB (dCB (fIsi [0] (ktT [[.o 0]] tys)) (dCons (dVar 1) (dCons (dC (.ty "str")) (dNil)))))) (dB (dOp (fIn true) (dVar 1) (dVar 2)))) (dNever) (dNext)
def F_need_word : FD := bodyF 3 u_need_word
def u_need_words : SD := dSeq (dIfS (dNot (dB (dCB (fIsT [0] (ktT [[.o 0]] tys)) (dCons (dVar 1) (dCons (dTup (dCons (dC (.ty "list")) (dCons (dC (.ty "tuple")) (dNil)))) (dNil)))))) (dNever) (dNext)) (dSeq (dFor (dSeqI (dVar 1)) (gdName 3) (dDrop (dCall 3 F_need_word (dCons (dVar 0) (dCons (dVar 3) (dCons (dVar 2) (dNil))))))) (dIfS (dB (dOp (fB fun i j => decide (i < j)) (dUn fLenS (dVar 1)) (dCB fLen (dCons (dVar 1) (dNil))))) (dNever) (dNext)))
def F_need_words : FD := bodyF 4 u_need_words
def u_Book_init : SD := dSeq (dDrop (dCall 3 F_need_word (dCons (dC (.str "up")) (dCons (dVar 1) (dCons (dC (.tup [.str "one", .str "late", .str "blind"])) (dNil)))))) (dSeq (dDrop (dCall 3 F_need_word (dCons (dC (.str "down")) (dCons (dVar 2) (dCons (dC (.tup [.str "one", .str "two"])) (dNil)))))) (dSeq (dDrop (dCall 3 F_need_word (dCons (dC (.str "writes")) (dCons (dVar 3) (dCons (dC (.tup [.str "plain", .str "both", .str "again", .str "behind", .str "refused"])) (dNil)))))) (dSeq (dDrop (dCall 3 F_need_word (dCons (dC (.str "moves")) (dCons (dVar 4) (dCons (dC (.tup [.str "now", .str "first"])) (dNil)))))) (dSeq (dDrop (dCall 3 F_need_word (dCons (dC (.str "finish")) (dCons (dVar 5) (dCons (dC (.tup [.str "one", .str "link", .str "cut"])) (dNil)))))) (dSeq (dDrop (dCall 3 F_need_word (dCons (dC (.str "counts")) (dCons (dVar 6) (dCons (dC (.tup [.str "last", .str "first", .str "never"])) (dNil)))))) (dSeq (dDrop (dCall 3 F_need_words (dCons (dC (.str "bars")) (dCons (dVar 7) (dCons (dC (.tup [.str "cover", .str "lower", .str "open", .str "others", .str "upper"])) (dNil)))))) (dSeq (dDrop (dCall 3 F_need_words (dCons (dC (.str "notes")) (dCons (dVar 8) (dCons (dC (.tup [.str "again", .str "job", .str "place"])) (dNil)))))) (dSeq (dAsg (dTup (dCons (dVar 1) (dCons (dVar 2) (dCons (dVar 3) (dCons (dVar 4) (dCons (dVar 5) (dCons (dVar 6) (dNil)))))))) (gdFld [0] "b_words" (dVar 0))) (dSeq (dAsg (dCB fTupOf (dCons (dCB (fSrt false) (dCons (dVar 7) (dNil))) (dNil))) (gdFld [0] "b_bars" (dVar 0))) (dAsg (dCB fTupOf (dCons (dCB (fSrt false) (dCons (dVar 8) (dNil))) (dNil))) (gdFld [0] "b_notes" (dVar 0))))))))))))
def F_Book_init : FD := bodyF 9 u_Book_init
def u__law_made : SD := dSeq (dPar 1 2 (dCons (dOp fIx (dVar 0) (dC (.str "bars"))) (dCons (dOp fIx (dVar 0) (dC (.str "notes"))) (dNil)))) (dSeq (dAsg (dLst false (dCons (dOp fIx (dVar 0) (dC (.str "writes"))) (dCons (dOp fIx (dVar 0) (dC (.str "moves"))) (dCons (dOp fIx (dVar 0) (dC (.str "finish"))) (dCons (dOp fIx (dVar 0) (dC (.str "counts"))) (dNil)))))) (gdName 3)) (dRet (dMakeN 0 true 1 8 ([.p 0, .k 7, .k 6, .k 5, .k 4, .k 3, .k 2, .k 1, .k 0]) F_Book_init (dNil) (dCons (dVar 2) (dCons (dVar 1) (dCons (dOp fIx (dVar 3) (dC (.int 3))) (dCons (dOp fIx (dVar 3) (dC (.int 2))) (dCons (dOp fIx (dVar 3) (dC (.int 1))) (dCons (dOp fIx (dVar 3) (dC (.int 0))) (dCons (dOp fIx (dVar 0) (dC (.str "down"))) (dCons (dOp fIx (dVar 0) (dC (.str "up"))) (dNil))))))))))))
def F__law_made : FD := bodyF 4 u__law_made
def u__law_due : SD := dSeq (dAsg (dLc false (dSeqI (dLst false (dCons (dC (.str "up")) (dCons (dC (.str "down")) (dCons (dC (.str "writes")) (dCons (dC (.str "moves")) (dCons (dC (.str "finish")) (dCons (dC (.str "counts")) (dNil))))))))) (gdName 2) (dYes) (dOp fIx (dVar 0) (dVar 2)) [2]) (gdName 1)) (dRet (dOp (fAdd false) (dVar 1) (dLst false (dCons (dCB fTupOf (dCons (dCB (fSrt false) (dCons (dOp fIx (dVar 0) (dC (.str "bars"))) (dNil))) (dNil))) (dCons (dCB fTupOf (dCons (dCB (fSrt false) (dCons (dOp fIx (dVar 0) (dC (.str "notes"))) (dNil))) (dNil))) (dNil))))))
def F__law_due : FD := bodyF 3 u__law_due
def u_Book_eq : SD := dSeq (dIfS (dNot (dB (dCB (fIsi [0] (ktT [[.o 0]] tys)) (dCons (dVar 1) (dCons (dC (.cls 0)) (dNil)))))) (dRet (dC (.bl false))) (dNext)) (dRet (dAndV (dOp (fEq false) (dUn (fFld [0] "b_words") (dVar 0)) (dUn (fFld [0] "b_words") (dVar 1))) (dAndV (dOp (fEq false) (dUn (fFld [0] "b_bars") (dVar 0)) (dUn (fFld [0] "b_bars") (dVar 1))) (dOp (fEq false) (dUn (fFld [0] "b_notes") (dVar 0)) (dUn (fFld [0] "b_notes") (dVar 1))))))
def F_Book_eq : FD := bodyF 2 u_Book_eq
def u_Book_bars : SD := dRet (dUn (fFld [0] "b_bars") (dVar 0))
def F_Book_bars : FD := bodyF 1 u_Book_bars
def u_is_kind : SD := dRet (dAndV (dCB (fIsi [0] (ktT [[.o 0]] tys)) (dCons (dVar 0) (dCons (dC (.ty "str")) (dNil)))) (dOp (fIn false) (dVar 0) (dC (.tup [.str "down", .str "up"]))))
def F_is_kind : FD := bodyF 1 u_is_kind
def u_Book_up : SD := dRet (dOp fIx (dUn (fFld [0] "b_words") (dVar 0)) (dC (.int 0)))
def F_Book_up : FD := bodyF 1 u_Book_up
def u_Book_down : SD := dRet (dOp fIx (dUn (fFld [0] "b_words") (dVar 0)) (dC (.int 1)))
def F_Book_down : FD := bodyF 1 u_Book_down
def u_Book_writes : SD := dRet (dOp fIx (dUn (fFld [0] "b_words") (dVar 0)) (dC (.int 2)))
def F_Book_writes : FD := bodyF 1 u_Book_writes
def u_Book_moves : SD := dRet (dOp fIx (dUn (fFld [0] "b_words") (dVar 0)) (dC (.int 3)))
def F_Book_moves : FD := bodyF 1 u_Book_moves
def u_Book_finish : SD := dRet (dOp fIx (dUn (fFld [0] "b_words") (dVar 0)) (dC (.int 4)))
def F_Book_finish : FD := bodyF 1 u_Book_finish
def u_Book_counts : SD := dRet (dOp fIx (dUn (fFld [0] "b_words") (dVar 0)) (dC (.int 5)))
def F_Book_counts : FD := bodyF 1 u_Book_counts
def u_Book_notes : SD := dRet (dUn (fFld [0] "b_notes") (dVar 0))
def F_Book_notes : FD := bodyF 1 u_Book_notes
def u__law_all_fields : SD := dRet (dLst false (dCons (dProp 0 F_Book_up (dVar 0)) (dCons (dProp 0 F_Book_down (dVar 0)) (dCons (dProp 0 F_Book_writes (dVar 0)) (dCons (dProp 0 F_Book_moves (dVar 0)) (dCons (dProp 0 F_Book_finish (dVar 0)) (dCons (dProp 0 F_Book_counts (dVar 0)) (dCons (dProp 0 F_Book_bars (dVar 0)) (dCons (dProp 0 F_Book_notes (dVar 0)) (dNil))))))))))
def F__law_all_fields : FD := bodyF 1 u__law_all_fields
def u_law : SD := dSeq (dAsg (dCall 1 F__law_begun (dCons (dVar 0) (dNil))) (gdName 1)) (dSeq (dFor (dRng1 (dCons (dOp (fAdd false) (dC (.int 4)) (dCB fMin (dCons (dCB fLen (dCons (dVar 0) (dNil))) (dCons (dC (.int 16)) (dNil))))) (dNil))) (gdName 2) (dSeq (dAsg (dCall 1 F__law_all_words (dCons (dVar 1) (dNil))) (gdName 3)) (dSeq (dPar 4 5 (dCons (dCall 1 F__law_made (dCons (dVar 3) (dNil))) (dCons (dCall 1 F__law_due (dCons (dVar 3) (dNil))) (dNil)))) (dSeq (dAsg (dCB (fDctOf true) (dCons (dVar 3) (dNil))) (gdName 6)) (dSeq (dAsg (dTup (dCons (dCB fTupOf (dCons (dUn (fRev false) (dOp fIx (dVar 3) (dC (.str "bars")))) (dNil))) (dCons (dCB fTupOf (dCons (dUn (fRev false) (dOp fIx (dVar 3) (dC (.str "notes")))) (dNil))) (dNil)))) (gdTup 2 (gdCons (gdSub (dVar 6) (dC (.str "bars"))) (gdCons (gdSub (dVar 6) (dC (.str "notes"))) (gdNil))))) (dSeq (dDrop (dBM "list" fAppend (dOp fIx (dVar 3) (dC (.str "bars"))) (dCons (dC .non) (dNil)))) (dSeq (dDrop (dBM0 "list" fClear (dOp fIx (dVar 3) (dC (.str "notes"))))) (dSeq (dIfS (dOr (dB (dOp (fEq true) (dCB fRepr (dCons (dCall 1 F__law_all_fields (dCons (dVar 4) (dNil))) (dNil))) (dCB fRepr (dCons (dVar 5) (dNil))))) (dOr (dNot (dB (dOp (fOwn 0 (fun t => decide (t ∈ [.b "NoneType", .b "bool", .b "int", .b "str", .b "list", .b "tuple", .b "dict", .o 0])) [0] false F_Book_eq) (dVar 4) (dCall 1 F__law_made (dCons (dVar 6) (dNil)))))) (dB (dOp (fOwn 0 (fun t => decide (t ∈ [.b "NoneType", .b "bool", .b "int", .b "str", .b "list", .b "tuple", .b "dict", .o 0])) [0] true F_Book_eq) (dVar 4) (dCall 1 F__law_made (dCons (dVar 6) (dNil))))))) (dRet (dC (.bl false))) (dNext)) (dSeq (dAsg (dCall 2 F__law_near (dCons (dVar 1) (dCons (dVar 6) (dNil)))) (gdName 7)) (dSeq (dAsg (dOp (fEq false) (dVar 5) (dCall 1 F__law_due (dCons (dVar 7) (dNil)))) (gdName 8)) (dSeq (dIfS (dOr (dB (dOp (fEq true) (dOp (fOwn 0 (fun t => decide (t ∈ [.b "NoneType", .b "bool", .b "int", .b "str", .b "list", .b "tuple", .b "dict", .o 0])) [0] false F_Book_eq) (dVar 4) (dCall 1 F__law_made (dCons (dVar 7) (dNil)))) (dVar 8))) (dB (dOp (fEq false) (dOp (fOwn 0 (fun t => decide (t ∈ [.b "NoneType", .b "bool", .b "int", .b "str", .b "list", .b "tuple", .b "dict", .o 0])) [0] true F_Book_eq) (dVar 4) (dCall 1 F__law_made (dCons (dVar 7) (dNil)))) (dVar 8)))) (dRet (dC (.bl false))) (dNext)) (dSeq (dFor (dSeqI (dLst false (dCons (dC .non) (dCons (dVar 5) (dCons (dCB fRepr (dCons (dVar 5) (dNil))) (dCons (dC (.int 0)) (dCons (dTup (dNil)) (dCons (dProp 0 F_Book_bars (dVar 4)) (dNil))))))))) (gdName 9) (dIfS (dOr (dB (dOp (fOwn 0 (fun t => decide (t ∈ [.b "NoneType", .b "bool", .b "int", .b "str", .b "list", .b "tuple", .b "dict", .o 0])) [0] false F_Book_eq) (dVar 4) (dVar 9))) (dNot (dB (dOp (fOwn 0 (fun t => decide (t ∈ [.b "NoneType", .b "bool", .b "int", .b "str", .b "list", .b "tuple", .b "dict", .o 0])) [0] true F_Book_eq) (dVar 4) (dVar 9))))) (dRet (dC (.bl false))) (dNext))) (dSeq (dAsg (dLst false (dCons (dMakeN 0 true 1 0 ([.p 0, .c (.str "one"), .c (.str "one"), .c (.str "plain"), .c (.str "now"), .c (.str "one"), .c (.str "last"), .c (.tup []), .c (.tup [])]) F_Book_init (dNil) (dNil)) (dCons (dMakeN 0 true 1 1 ([.p 0, .k 0, .c (.str "one"), .c (.str "plain"), .c (.str "now"), .c (.str "one"), .c (.str "last"), .c (.tup []), .c (.tup [])]) F_Book_init (dNil) (dCons (dOp fIx (dVar 6) (dC (.str "up"))) (dNil))) (dCons (dMakeN 0 true 1 1 ([.p 0, .c (.str "one"), .c (.str "one"), .c (.str "plain"), .c (.str "now"), .c (.str "one"), .c (.str "last"), .k 0, .c (.tup [])]) F_Book_init (dNil) (dCons (dOp fIx (dVar 6) (dC (.str "bars"))) (dNil))) (dCons (dMakeN 0 true 1 2 ([.p 0, .c (.str "one"), .c (.str "one"), .c (.str "plain"), .c (.str "now"), .c (.str "one"), .k 0, .c (.tup []), .k 1]) F_Book_init (dNil) (dCons (dOp fIx (dVar 6) (dC (.str "counts"))) (dCons (dOp fIx (dVar 6) (dC (.str "notes"))) (dNil)))) (dNil)))))) (gdName 10)) (dSeq (dAsg (dLst false (dCons (dC (.str "one")) (dCons (dC (.str "one")) (dCons (dC (.str "plain")) (dCons (dC (.str "now")) (dCons (dC (.str "one")) (dCons (dC (.str "last")) (dCons (dTup (dNil)) (dCons (dTup (dNil)) (dNil)))))))))) (gdName 11)) (dSeq (dAsg (dLst false (dCons (dVar 11) (dCons (dOp (fAdd false) (dLst false (dCons (dOp fIx (dVar 5) (dC (.int 0))) (dNil))) (dSl false (dVar 11) (dPart (dC (.int 1))) (dNoPart))) (dCons (dOp (fAdd false) (dSl false (dVar 11) (dNoPart) (dPart (dC (.int 6)))) (dLst false (dCons (dOp fIx (dVar 5) (dC (.int 6))) (dCons (dTup (dNil)) (dNil))))) (dCons (dOp (fAdd false) (dSl false (dVar 11) (dNoPart) (dPart (dC (.int 5)))) (dLst false (dCons (dOp fIx (dVar 5) (dC (.int 5))) (dCons (dTup (dNil)) (dCons (dOp fIx (dVar 5) (dC (.int 7))) (dNil)))))) (dNil)))))) (gdName 12)) (dSeq (dIfS (dB (dOp (fEq true) (dCB fRepr (dCons (dLc false (dSeqI (dVar 10)) (gdName 13) (dYes) (dCall 1 F__law_all_fields (dCons (dVar 13) (dNil))) [13]) (dNil))) (dCB fRepr (dCons (dVar 12) (dNil))))) (dRet (dC (.bl false))) (dNext)) (dSeq (dAsg (dCall 1 F__law_odd (dCons (dVar 1) (dNil))) (gdName 14)) (dSeq (dAsg (dLst false (dCons (dCall 1 F_is_kind (dCons (dVar 14) (dNil))) (dCons (dCallN 0 1 ([.k 0]) F_is_kind (dNil) (dCons (dC (.str "up")) (dNil))) (dCons (dCall 1 F_is_kind (dCons (dC (.str "down")) (dNil))) (dCons (dCall 1 F_is_kind (dCons (dLst false (dCons (dC (.str "up")) (dNil))) (dNil))) (dCons (dCall 1 F_is_kind (dCons (dVar 4) (dNil))) (dNil))))))) (gdName 3)) (dIfS (dB (dOp (fEq true) (dCB fRepr (dCons (dVar 3) (dNil))) (dCB fRepr (dCons (dLst false (dCons (dAndV (dCB (fIsi [0] (ktT [[.o 0]] tys)) (dCons (dVar 14) (dCons (dC (.ty "str")) (dNil)))) (dOp (fIn false) (dVar 14) (dTup (dCons (dC (.str "up")) (dCons (dC (.str "down")) (dNil)))))) (dCons (dC (.bl true)) (dCons (dC (.bl true)) (dCons (dC (.bl false)) (dCons (dC (.bl false)) (dNil))))))) (dNil))))) (dRet (dC (.bl false))) (dNext)))))))))))))))))))) (dRet (dOp (fEq false) (dTup (dCons (dC (.tup [.str "cover", .str "lower", .str "open", .str "others", .str "upper"])) (dCons (dC (.tup [.str "again", .str "job", .str "place"])) (dNil)))) (dTup (dCons (dTup (dCons (dC (.str "cover")) (dCons (dC (.str "lower")) (dCons (dC (.str "open")) (dCons (dC (.str "others")) (dCons (dC (.str "upper")) (dNil))))))) (dCons (dTup (dCons (dC (.str "again")) (dCons (dC (.str "job")) (dCons (dC (.str "place")) (dNil))))) (dNil)))))))
def F_law : FD := bodyF 15 u_law
--WALKS--
section
variable {P : Program} {w : World} {K : PySem.W.Frag} {mg : Str → Option Value} {base : Heap} {CA : Nat → Addr} {f : Addr} {fd : FuncData}
theorem sc__law_begun : FnScope ["_law_script", "_law_wide", "_law_cell"] ["_law_script"] (defScope s__law_begun) := ⟨rfl, rfl, rfl, by decide +kernel, rfl, by decide +kernel, by decide +kernel⟩
theorem ok__law_begun  (F : Fun K "_law_begun" "_law_begun" s__law_begun f fd) (T : Txt mg) (C : Cst K CA mg) (Fl : Fld K CA) (Kt : KtOk K CA [0] (ktT [[.o 0]] tys))  : FnG P w K mg base true 1 f fd ["_law_script"] (spD K CA 1 (bodyF 3 u__law_begun)) := by
  have nd := (sc__law_begun).nd
  refine okD F sc__law_begun rfl rfl fun cd A outer s H E hg hr tk => ?_
  have Y : WSs (cxD P w K mg base ["_law_script", "_law_wide", "_law_cell"] "_law_begun" s__law_begun f cd A outer s H E) K CA (wxD E) (defBody s__law_begun) _ _ := wss_cons (ws_setLc true (i := 1) rfl nd rfl rfl (own := [("_law_cell", 2)]) (wi_seq (we_var (pv 0))) (blkOk_by (N := ["_law_script", "_law_wide", "_law_cell"]) (sc := defScope s__law_begun) (by decide +kernel)) (fun s H C cl fp => wg_name (pg_name (i := 2) nd rfl (by first | exact Or.inl rfl | exact Or.inr rfl))) (fun s H C cl fp => wts_one (wt_cmp op_ge sim_cB (we_cb sim_abs (wa_cons (we_var (pv 2)) (wa_nil)) (fun a => pe_callB call_abs (by rfl) T.z_abs boot_absU a)) (we_op op_pow sim_pow (we_int) (we_int)) (by rfl))) (fun s H C cl fp => we_op op_sub sim_subI (we_cb sim_abs (wa_cons (we_var (pv 2)) (wa_nil)) (fun a => pe_callB call_abs (by rfl) T.z_abs boot_absU a)) (we_op op_pow sim_pow (we_int) (we_int))) (by decide)) (wss_one (ws_ret (we_disp true (wp_cons (we_str) (we_var (pv 1)) (wp_cons (we_str) (we_lc false rfl nd (own := [("_law_cell", 2)]) (wi_seq (we_var (pv 0))) (blkOk_by (N := ["_law_script", "_law_wide", "_law_cell"]) (sc := defScope s__law_begun) (by decide +kernel)) (fun s H C cl fp => wg_name (pg_name (i := 2) nd rfl (by first | exact Or.inl rfl | exact Or.inr rfl))) (fun s H C cl fp => wts_nil) (fun s H C cl fp => we_op op_mod sim_mod (we_cb sim_int (wa_cons (we_cb sim_abs (wa_cons (we_var (pv 2)) (wa_nil)) (fun a => pe_callB call_abs (by rfl) T.z_abs boot_absU a)) (wa_nil)) (fun a => pe_callTy call_int1 (by rfl) T.z_int boot_intU a)) (we_int)) (by decide)) (wp_cons (we_str) (we_int) (wp_cons (we_str) (we_int) (wp_nil))))) (by rfl) (by rfl) (by decide) (by decide))))
  exact ⟨_, Y⟩
theorem sc__law_mixed : FnScope ["_law_draw", "_law_turn", "_law_found", "_law_prime", "_law_blend", "_law_cell"] ["_law_draw"] (defScope s__law_mixed) := ⟨rfl, rfl, rfl, by decide +kernel, rfl, by decide +kernel, by decide +kernel⟩
theorem ok__law_mixed  (F : Fun K "_law_mixed" "_law_mixed" s__law_mixed f fd) (T : Txt mg) (C : Cst K CA mg) (Fl : Fld K CA) (Kt : KtOk K CA [0] (ktT [[.o 0]] tys))  : FnG P w K mg base true 1 f fd ["_law_draw"] (spD K CA 1 (bodyF 6 u__law_mixed)) := by
  have nd := (sc__law_mixed).nd
  refine okD F sc__law_mixed rfl rfl fun cd A outer s H E hg hr tk => ?_
  have Y : WSs (cxD P w K mg base ["_law_draw", "_law_turn", "_law_found", "_law_prime", "_law_blend", "_law_cell"] "_law_mixed" s__law_mixed f cd A outer s H E) K CA (wxD E) (defBody s__law_mixed) _ _ := wss_cons (ws_par (wa_cons (we_op op_addU (sim_add (nm := false)) (we_ix (ixU (hu_of hr)) sim_ix (we_var (pv 0)) (we_str)) (we_int)) (wa_cons (we_int) (wa_nil))) (fun q => ps_par (i := 1) (j := 2) rfl nd rfl rfl (by decide) rfl rfl q (by rfl))) (wss_cons (ws_asg (we_var (pv 1)) (wg_sub (W := wxD E) (hu_of hr) (we_var (pv 0)) (we_str) (fun a b c => pg_sub a b c))) (wss_cons (ws_for (wi_seq (we_lst false (wa_cons (we_int) (wa_cons (we_int) (wa_cons (we_int) (wa_cons (we_int) (wa_nil))))))) (wg_name (pg_name (i := 3) nd rfl (by first | exact Or.inl rfl | exact Or.inr rfl))) (wss_cons (ws_set (we_op op_addU (sim_add (nm := false)) (we_op op_mulU (sim_mul (nm := false)) (we_int) (we_var (pv 1))) (we_op op_fdiv sim_div (we_var (pv 3)) (we_int))) (fun q => ps_set (i := 4) nd rfl (by first | exact Or.inl rfl | exact Or.inr rfl) q)) (wss_cons (ws_for (wi_seq (we_ix (ixU (hu_of hr)) sim_ix (we_var (pv 0)) (we_str))) (wg_name (pg_name (i := 5) nd rfl (by first | exact Or.inl rfl | exact Or.inr rfl))) (wss_one (ws_set (we_op op_mod sim_mod (we_cb sim_int (wa_cons (we_op op_addU (sim_add (nm := false)) (we_op op_addU (sim_add (nm := false)) (we_op op_mulU (sim_mul (nm := false)) (we_var (pv 4)) (we_int)) (we_var (pv 5))) (we_var (pv 1))) (wa_nil)) (fun a => pe_callTy call_int1 (by rfl) T.z_int boot_intU a)) (we_var (pv 3))) (fun q => ps_set (i := 4) nd rfl (by first | exact Or.inl rfl | exact Or.inr rfl) q))) (fun i g b => ps_for (passes_of rfl) rfl i g b)) (wss_one (ws_set (we_op op_addU (sim_add (nm := false)) (we_op op_mulU (sim_mul (nm := false)) (we_var (pv 2)) (we_int)) (we_op op_mod sim_mod (we_cb sim_int (wa_cons (we_op op_pow sim_pow (we_var (pv 4)) (we_int)) (wa_nil)) (fun a => pe_callTy call_int1 (by rfl) T.z_int boot_intU a)) (we_var (pv 3)))) (fun q => ps_set (i := 2) nd rfl (by first | exact Or.inl rfl | exact Or.inr rfl) q))))) (fun i g b => ps_for (passes_of rfl) rfl i g b)) (wss_one (ws_ret (we_var (pv 2))))))
  exact ⟨_, Y⟩
theorem sc__law_take : FnScope ["_law_draw", "_law_size", "_law_found"] ["_law_draw", "_law_size"] (defScope s__law_take) := ⟨rfl, rfl, rfl, by decide +kernel, rfl, by decide +kernel, by decide +kernel⟩
theorem ok__law_take {f__law_mixed : Addr} {fd__law_mixed : FuncData} (F : Fun K "_law_take" "_law_take" s__law_take f fd) (T : Txt mg) (C : Cst K CA mg) (Fl : Fld K CA) (Kt : KtOk K CA [0] (ktT [[.o 0]] tys)) (B__law_mixed_1 : KwB K CA fd__law_mixed ["_law_draw"] 1 [] (srcP 0 1)) (D__law_mixed : Df P w K mg base CA "_law_mixed" true 1 ["_law_draw"] F__law_mixed f__law_mixed fd__law_mixed) : FnG P w K mg base true 2 f fd ["_law_draw", "_law_size"] (spD K CA 2 (bodyF 3 u__law_take)) := by
  have nd := (sc__law_take).nd
  refine okD F sc__law_take rfl rfl fun cd A outer s H E hg hr tk => ?_
  have Y : WSs (cxD P w K mg base ["_law_draw", "_law_size", "_law_found"] "_law_take" s__law_take f cd A outer s H E) K CA (wxD E) (defBody s__law_take) _ _ := wss_cons (ws_if (wt_cmp (op_eqU hr.units) sim_eq (we_ix (ixU (hu_of hr)) sim_ix (we_var (pv 0)) (we_str)) (we_int) (by rfl)) (wss_one (ws_asg (we_ifExp (wt_cmp (op_neU hr.units) sim_ne (we_ix (ixU (hu_of hr)) sim_ix (we_var (pv 0)) (we_str)) (we_lst false (wa_nil)) (by rfl)) (we_bm (T := "list") (r := rPopAt) sim_popAt (we_ix (ixU (hu_of hr)) sim_ix (we_var (pv 0)) (we_str)) (wa_cons (we_int) (wa_nil)) (fun a b => pe_bm PySem.F.plainAttrs_list PySem.F.slot_list_pop PySem.F.type_list_pop mt_popAt a b)) (we_callP D__law_mixed hg (hr.mono (by decide)) tk (wa_cons (we_var (pv 0)) (wa_nil)) B__law_mixed_1)) (wg_sub (W := wxD E) (hu_of hr) (we_var (pv 0)) (we_str) (fun a b c => pg_sub a b c)))) (wss_nil)) (wss_cons (ws_set (we_op op_mod sim_mod (we_cb sim_int (wa_cons (we_ix (ixU (hu_of hr)) sim_ix (we_var (pv 0)) (we_str)) (wa_nil)) (fun a => pe_callTy call_int1 (by rfl) T.z_int boot_intU a)) (we_var (pv 1))) (fun q => ps_set (i := 2) nd rfl (by first | exact Or.inl rfl | exact Or.inr rfl) q)) (wss_cons (ws_asg (we_op op_fdiv sim_div (we_ix (ixU (hu_of hr)) sim_ix (we_var (pv 0)) (we_str)) (we_var (pv 1))) (wg_sub (W := wxD E) (hu_of hr) (we_var (pv 0)) (we_str) (fun a b c => pg_sub a b c))) (wss_one (ws_ret (we_var (pv 2))))))
  exact ⟨_, Y⟩
theorem sc__law_pick : FnScope ["_law_draw", "_law_some"] ["_law_draw", "_law_some"] (defScope s__law_pick) := ⟨rfl, rfl, rfl, by decide +kernel, rfl, by decide +kernel, by decide +kernel⟩
theorem ok__law_pick {f__law_take : Addr} {fd__law_take : FuncData} (F : Fun K "_law_pick" "_law_pick" s__law_pick f fd) (T : Txt mg) (C : Cst K CA mg) (Fl : Fld K CA) (Kt : KtOk K CA [0] (ktT [[.o 0]] tys)) (B__law_take_2 : KwB K CA fd__law_take ["_law_draw", "_law_size"] 2 [] (srcP 0 2)) (D__law_take : Df P w K mg base CA "_law_take" true 2 ["_law_draw", "_law_size"] F__law_take f__law_take fd__law_take) : FnG P w K mg base true 3 f fd ["_law_draw", "_law_some"] (spD K CA 2 (bodyF 2 u__law_pick)) := by
  have nd := (sc__law_pick).nd
  refine okD F sc__law_pick rfl rfl fun cd A outer s H E hg hr tk => ?_
  have Y : WSs (cxD P w K mg base ["_law_draw", "_law_some"] "_law_pick" s__law_pick f cd A outer s H E) K CA (wxD E) (defBody s__law_pick) _ _ := wss_one (ws_ret (we_ix (ixU (hu_of hr)) sim_ix (we_var (pv 1)) (we_callP D__law_take hg (hr.mono (by decide)) tk (wa_cons (we_var (pv 0)) (wa_cons (we_cb sim_len (wa_cons (we_var (pv 1)) (wa_nil)) (fun a => pe_callB (call_lenU rfl call_lenRd) (by rfl) T.z_len boot_lenU a)) (wa_nil))) B__law_take_2)))
  exact ⟨_, Y⟩
theorem sc__law_shuffled : FnScope ["_law_draw", "_law_some", "_law_left", "_law_found"] ["_law_draw", "_law_some"] (defScope s__law_shuffled) := ⟨rfl, rfl, rfl, by decide +kernel, rfl, by decide +kernel, by decide +kernel⟩
theorem ok__law_shuffled {f__law_take : Addr} {fd__law_take : FuncData} (F : Fun K "_law_shuffled" "_law_shuffled" s__law_shuffled f fd) (T : Txt mg) (C : Cst K CA mg) (Fl : Fld K CA) (Kt : KtOk K CA [0] (ktT [[.o 0]] tys)) (B__law_take_2 : KwB K CA fd__law_take ["_law_draw", "_law_size"] 2 [] (srcP 0 2)) (D__law_take : Df P w K mg base CA "_law_take" true 2 ["_law_draw", "_law_size"] F__law_take f__law_take fd__law_take) : FnG P w K mg base true 3 f fd ["_law_draw", "_law_some"] (spD K CA 2 (bodyF 4 u__law_shuffled)) := by
  have nd := (sc__law_shuffled).nd
  refine okD F sc__law_shuffled rfl rfl fun cd A outer s H E hg hr tk => ?_
  have Y : WSs (cxD P w K mg base ["_law_draw", "_law_some", "_law_left", "_law_found"] "_law_shuffled" s__law_shuffled f cd A outer s H E) K CA (wxD E) (defBody s__law_shuffled) _ _ := wss_cons (ws_par (wa_cons (we_cb (sim_listOf (nm := true)) (wa_cons (we_var (pv 1)) (wa_nil)) (fun a => pe_callTy call_listOf (by rfl) T.z_list boot_listU a)) (wa_cons (we_lst true (wa_nil)) (wa_nil))) (fun q => ps_par (i := 2) (j := 3) rfl nd rfl rfl (by decide) rfl rfl q (by rfl))) (wss_cons (ws_while 1000000 (wt_cmp (op_neU hr.units) sim_ne (we_var (pv 2)) (we_lst false (wa_nil)) (by rfl)) (wss_one (ws_expr (we_bm (T := "list") (r := rAppend) sim_append (we_var (pv 3)) (wa_cons (we_bm (T := "list") (r := rPopAt) sim_popAt (we_var (pv 2)) (wa_cons (we_callP D__law_take hg (hr.mono (by decide)) tk (wa_cons (we_var (pv 0)) (wa_cons (we_cb sim_len (wa_cons (we_var (pv 2)) (wa_nil)) (fun a => pe_callB (call_lenU rfl call_lenRd) (by rfl) T.z_len boot_lenU a)) (wa_nil))) B__law_take_2) (wa_nil)) (fun a b => pe_bm PySem.F.plainAttrs_list PySem.F.slot_list_pop PySem.F.type_list_pop mt_popAt a b)) (wa_nil)) (fun a b => pe_bm PySem.F.plainAttrs_list PySem.F.slot_list_append PySem.F.type_list_append mt_append a b)))) (fun c b => ps_while (passes_of rfl) c b)) (wss_one (ws_ret (we_var (pv 3)))))
  exact ⟨_, Y⟩
theorem sc__law_all_words : FnScope ["_law_draw", "_law_found", "_law_name", "_law_some", "_law_one"] ["_law_draw"] (defScope s__law_all_words) := ⟨rfl, rfl, rfl, by decide +kernel, rfl, by decide +kernel, by decide +kernel⟩
theorem ok__law_all_words {f__law_pick : Addr} {fd__law_pick : FuncData} {f__law_shuffled : Addr} {fd__law_shuffled : FuncData} {f__law_take : Addr} {fd__law_take : FuncData} (F : Fun K "_law_all_words" "_law_all_words" s__law_all_words f fd) (T : Txt mg) (C : Cst K CA mg) (Fl : Fld K CA) (Kt : KtOk K CA [0] (ktT [[.o 0]] tys)) (B__law_pick_2 : KwB K CA fd__law_pick ["_law_draw", "_law_some"] 2 [] (srcP 0 2)) (D__law_pick : Df P w K mg base CA "_law_pick" true 3 ["_law_draw", "_law_some"] F__law_pick f__law_pick fd__law_pick) (B__law_shuffled_2 : KwB K CA fd__law_shuffled ["_law_draw", "_law_some"] 2 [] (srcP 0 2)) (D__law_shuffled : Df P w K mg base CA "_law_shuffled" true 3 ["_law_draw", "_law_some"] F__law_shuffled f__law_shuffled fd__law_shuffled) (B__law_take_2 : KwB K CA fd__law_take ["_law_draw", "_law_size"] 2 [] (srcP 0 2)) (D__law_take : Df P w K mg base CA "_law_take" true 2 ["_law_draw", "_law_size"] F__law_take f__law_take fd__law_take) : FnG P w K mg base true 4 f fd ["_law_draw"] (spD K CA 1 (bodyF 5 u__law_all_words)) := by
  have nd := (sc__law_all_words).nd
  refine okD F sc__law_all_words rfl rfl fun cd A outer s H E hg hr tk => ?_
  have Y : WSs (cxD P w K mg base ["_law_draw", "_law_found", "_law_name", "_law_some", "_law_one"] "_law_all_words" s__law_all_words f cd A outer s H E) K CA (wxD E) (defBody s__law_all_words) _ _ := wss_cons (ws_set (we_disp true (wp_cons (we_str) (we_callP D__law_pick hg (hr.mono (by decide)) tk (wa_cons (we_var (pv 0)) (wa_cons (we_lst false (wa_cons (we_str) (wa_cons (we_str) (wa_cons (we_str) (wa_nil))))) (wa_nil))) B__law_pick_2) (wp_cons (we_str) (we_callP D__law_pick hg (hr.mono (by decide)) tk (wa_cons (we_var (pv 0)) (wa_cons (we_lst false (wa_cons (we_str) (wa_cons (we_str) (wa_nil)))) (wa_nil))) B__law_pick_2) (wp_nil))) (by rfl) (by rfl) (by decide) (by decide)) (fun q => ps_set (i := 1) nd rfl (by first | exact Or.inl rfl | exact Or.inr rfl) q)) (wss_cons (ws_asg (we_callP D__law_pick hg (hr.mono (by decide)) tk (wa_cons (we_var (pv 0)) (wa_cons (we_lst false (wa_cons (we_str) (wa_cons (we_str) (wa_cons (we_str) (wa_cons (we_str) (wa_cons (we_str) (wa_nil))))))) (wa_nil))) B__law_pick_2) (wg_sub (W := wxD E) (hu_of hr) (we_var (pv 1)) (we_str) (fun a b c => pg_sub a b c))) (wss_cons (ws_asg (we_tup (wa_cons (we_callP D__law_pick hg (hr.mono (by decide)) tk (wa_cons (we_var (pv 0)) (wa_cons (we_lst false (wa_cons (we_str) (wa_cons (we_str) (wa_nil)))) (wa_nil))) B__law_pick_2) (wa_cons (we_callP D__law_pick hg (hr.mono (by decide)) tk (wa_cons (we_var (pv 0)) (wa_cons (we_lst false (wa_cons (we_str) (wa_cons (we_str) (wa_cons (we_str) (wa_nil))))) (wa_nil))) B__law_pick_2) (wa_nil)))) (wg_tup rfl (wgs_cons (wg_sub (W := wxD E) (hu_of hr) (we_var (pv 1)) (we_str) (fun a b c => pg_sub a b c)) (wgs_cons (wg_sub (W := wxD E) (hu_of hr) (we_var (pv 1)) (we_str) (fun a b c => pg_sub a b c)) (wgs_nil))))) (wss_cons (ws_asg (we_callP D__law_pick hg (hr.mono (by decide)) tk (wa_cons (we_var (pv 0)) (wa_cons (we_lst false (wa_cons (we_str) (wa_cons (we_str) (wa_cons (we_str) (wa_nil))))) (wa_nil))) B__law_pick_2) (wg_sub (W := wxD E) (hu_of hr) (we_var (pv 1)) (we_str) (fun a b c => pg_sub a b c))) (wss_cons (ws_for (wi_seq (we_lst false (wa_cons (we_tup (wa_cons (we_str) (wa_cons (we_lst false (wa_cons (we_str) (wa_cons (we_str) (wa_cons (we_str) (wa_cons (we_str) (wa_cons (we_str) (wa_nil))))))) (wa_nil)))) (wa_cons (we_tup (wa_cons (we_str) (wa_cons (we_lst false (wa_cons (we_str) (wa_cons (we_str) (wa_cons (we_str) (wa_nil))))) (wa_nil)))) (wa_nil))))) (wg_tup rfl (wgs_cons (wg_name (pg_name (i := 2) nd rfl (by first | exact Or.inl rfl | exact Or.inr rfl))) (wgs_cons (wg_name (pg_name (i := 3) nd rfl (by first | exact Or.inl rfl | exact Or.inr rfl))) (wgs_nil)))) (wss_one (ws_asg (we_callP D__law_shuffled hg (hr.mono (by decide)) tk (wa_cons (we_var (pv 0)) (wa_cons (we_lc false rfl nd (own := [("_law_one", 4)]) (wi_seq (we_var (pv 3))) (blkOk_by (N := ["_law_draw", "_law_found", "_law_name", "_law_some", "_law_one"]) (sc := defScope s__law_all_words) (by decide +kernel)) (fun s H C cl fp => wg_name (pg_name (i := 4) nd rfl (by first | exact Or.inl rfl | exact Or.inr rfl))) (fun s H C cl fp => wts_one (wt_cmp (op_eqU hr.units) sim_eq (we_callP D__law_take hg (hr.mono (by decide)) takes0 (wa_cons (we_var (pv 0)) (wa_cons (we_int) (wa_nil))) B__law_take_2) (we_int) (by rfl))) (fun s H C cl fp => we_var (pv 4)) (by decide)) (wa_nil))) B__law_shuffled_2) (wg_sub (W := wxD E) (hu_of hr) (we_var (pv 1)) (we_var (pv 2)) (fun a b c => pg_sub a b c)))) (fun i g b => ps_for (passes_of rfl) rfl i g b)) (wss_one (ws_ret (we_fzI (we_var (pv 1)))))))))
  exact ⟨_, Y⟩
theorem sc__law_near : FnScope ["_law_draw", "_law_told", "_law_other", "_law_found", "_law_name"] ["_law_draw", "_law_told"] (defScope s__law_near) := ⟨rfl, rfl, rfl, by decide +kernel, rfl, by decide +kernel, by decide +kernel⟩
theorem ok__law_near {f__law_all_words : Addr} {fd__law_all_words : FuncData} {f__law_pick : Addr} {fd__law_pick : FuncData} (F : Fun K "_law_near" "_law_near" s__law_near f fd) (T : Txt mg) (C : Cst K CA mg) (Fl : Fld K CA) (Kt : KtOk K CA [0] (ktT [[.o 0]] tys)) (B__law_all_words_1 : KwB K CA fd__law_all_words ["_law_draw"] 1 [] (srcP 0 1)) (D__law_all_words : Df P w K mg base CA "_law_all_words" true 4 ["_law_draw"] F__law_all_words f__law_all_words fd__law_all_words) (B__law_pick_2 : KwB K CA fd__law_pick ["_law_draw", "_law_some"] 2 [] (srcP 0 2)) (D__law_pick : Df P w K mg base CA "_law_pick" true 3 ["_law_draw", "_law_some"] F__law_pick f__law_pick fd__law_pick) : FnG P w K mg base true 5 f fd ["_law_draw", "_law_told"] (spD K CA 2 (bodyF 5 u__law_near)) := by
  have nd := (sc__law_near).nd
  refine okD F sc__law_near rfl rfl fun cd A outer s H E hg hr tk => ?_
  have Y : WSs (cxD P w K mg base ["_law_draw", "_law_told", "_law_other", "_law_found", "_law_name"] "_law_near" s__law_near f cd A outer s H E) K CA (wxD E) (defBody s__law_near) _ _ := wss_cons (ws_par (wa_cons (we_callP D__law_all_words hg (hr.mono (by decide)) tk (wa_cons (we_var (pv 0)) (wa_nil)) B__law_all_words_1) (wa_cons (we_cb (sim_dctOf (nm := true)) (wa_cons (we_var (pv 1)) (wa_nil)) (fun a => pe_callTy call_dictD (by rfl) T.z_dict boot_dictU a)) (wa_nil))) (fun q => ps_par (i := 2) (j := 3) rfl nd rfl rfl (by decide) rfl rfl q (by rfl))) (wss_cons (ws_set (we_callP D__law_pick hg (hr.mono (by decide)) tk (wa_cons (we_var (pv 0)) (wa_cons (we_lst false (wa_cons (we_str) (wa_cons (we_str) (wa_cons (we_str) (wa_cons (we_str) (wa_cons (we_str) (wa_cons (we_str) (wa_cons (we_str) (wa_cons (we_str) (wa_nil)))))))))) (wa_nil))) B__law_pick_2) (fun q => ps_set (i := 4) nd rfl (by first | exact Or.inl rfl | exact Or.inr rfl) q)) (wss_cons (ws_asg (we_ix (ixU (hu_of hr)) sim_ix (we_var (pv 2)) (we_var (pv 4))) (wg_sub (W := wxD E) (hu_of hr) (we_var (pv 3)) (we_var (pv 4)) (fun a b c => pg_sub a b c))) (wss_one (ws_ret (we_fzI (we_var (pv 3)))))))
  exact ⟨_, Y⟩
theorem sc__law_odd : FnScope ["_law_draw", "_law_some"] ["_law_draw"] (defScope s__law_odd) := ⟨rfl, rfl, rfl, by decide +kernel, rfl, by decide +kernel, by decide +kernel⟩
theorem ok__law_odd {f__law_pick : Addr} {fd__law_pick : FuncData} (F : Fun K "_law_odd" "_law_odd" s__law_odd f fd) (T : Txt mg) (C : Cst K CA mg) (Fl : Fld K CA) (Kt : KtOk K CA [0] (ktT [[.o 0]] tys)) (B__law_pick_2 : KwB K CA fd__law_pick ["_law_draw", "_law_some"] 2 [] (srcP 0 2)) (D__law_pick : Df P w K mg base CA "_law_pick" true 3 ["_law_draw", "_law_some"] F__law_pick f__law_pick fd__law_pick) : FnG P w K mg base true 4 f fd ["_law_draw"] (spD K CA 1 (bodyF 2 u__law_odd)) := by
  have nd := (sc__law_odd).nd
  refine okD F sc__law_odd rfl rfl fun cd A outer s H E hg hr tk => ?_
  have Y : WSs (cxD P w K mg base ["_law_draw", "_law_some"] "_law_odd" s__law_odd f cd A outer s H E) K CA (wxD E) (defBody s__law_odd) _ _ := wss_cons (ws_set (we_lst false (wa_cons (we_non) (wa_cons (we_bl) (wa_cons (we_bl) (wa_cons (we_neg (we_int)) (wa_cons (we_int) (wa_cons (we_op op_pow sim_pow (we_int) (we_int)) (wa_cons (we_str) (wa_cons (we_str) (wa_cons (we_str) (wa_cons (we_str) (wa_cons (we_str) (wa_cons (we_tup (wa_nil)) (wa_cons (we_tup (wa_cons (we_int) (wa_nil))) (wa_cons (we_lst false (wa_nil)) (wa_cons (we_lst false (wa_cons (we_int) (wa_nil))) (wa_cons (we_dnew false) (wa_cons (we_disp false (wp_cons (we_int) (we_int) (wp_nil)) (by rfl) (by rfl) (by decide) (by decide)) (wa_nil))))))))))))))))))) (fun q => ps_set (i := 1) nd rfl (by first | exact Or.inl rfl | exact Or.inr rfl) q)) (wss_one (ws_ret (we_callP D__law_pick hg (hr.mono (by decide)) tk (wa_cons (we_var (pv 0)) (wa_cons (we_op op_addU (sim_add (nm := false)) (we_var (pv 1)) (we_lst false (wa_cons (we_tup (wa_cons (we_str) (wa_nil))) (wa_cons (we_tup (wa_cons (we_str) (wa_cons (we_int) (wa_nil)))) (wa_cons (we_lst false (wa_cons (we_tup (wa_cons (we_str) (wa_nil))) (wa_nil))) (wa_cons (we_str) (wa_cons (we_str) (wa_cons (we_tup (wa_cons (we_int) (wa_cons (we_int) (wa_cons (we_int) (wa_nil))))) (wa_cons (we_int) (wa_cons (we_int) (wa_nil))))))))))) (wa_nil))) B__law_pick_2)))
  exact ⟨_, Y⟩
theorem sc_need_word : FnScope ["field", "word", "words"] ["field", "word", "words"] (defScope s_need_word) := ⟨rfl, rfl, rfl, by decide +kernel, rfl, by decide +kernel, by decide +kernel⟩
theorem ok_need_word  (F : Fun K "need_word" "need_word" s_need_word f fd) (T : Txt mg) (C : Cst K CA mg) (Fl : Fld K CA) (Kt : KtOk K CA [0] (ktT [[.o 0]] tys))  : FnG P w K mg base false 1 f fd ["field", "word", "words"] (spD K CA 3 (bodyF 3 u_need_word)) := by
  have nd := (sc_need_word).nd
  refine okD F sc_need_word rfl rfl fun cd A outer s H E hg hr tk => ?_
  have Y : WSs (cxD P w K mg base ["field", "word", "words"] "need_word" s_need_word f cd A outer s H E) K CA (wxD E) (defBody s_need_word) _ _ := wss_one (ws_if ((ww_or (wt_not (wt_val (we_cb (sim_isi Kt) (wa_cons (we_var (pv 1)) (wa_cons (we_ty (pe_bltn (by rfl) T.z_str boot_strU rfl)) (wa_nil))) (fun a => pe_callB call_isiU (by rfl) T.z_isinstance boot_isinstanceU a)))) (ww_or1 (wt_cmp (op_notInU (hu_of hr)) (sim_in (neg := true)) (we_var (pv 1)) (we_var (pv 2)) (by rfl)))).wt) (wss_one (ws_never)) (wss_nil))
  exact ⟨_, Y⟩
theorem sc_need_words : FnScope ["field", "some", "words", "word"] ["field", "some", "words"] (defScope s_need_words) := ⟨rfl, rfl, rfl, by decide +kernel, rfl, by decide +kernel, by decide +kernel⟩
theorem ok_need_words {f_need_word : Addr} {fd_need_word : FuncData} (F : Fun K "need_words" "need_words" s_need_words f fd) (T : Txt mg) (C : Cst K CA mg) (Fl : Fld K CA) (Kt : KtOk K CA [0] (ktT [[.o 0]] tys)) (B_need_word_3 : KwB K CA fd_need_word ["field", "word", "words"] 3 [] (srcP 0 3)) (D_need_word : Df P w K mg base CA "need_word" false 1 ["field", "word", "words"] F_need_word f_need_word fd_need_word) : FnG P w K mg base false 2 f fd ["field", "some", "words"] (spD K CA 3 (bodyF 4 u_need_words)) := by
  have nd := (sc_need_words).nd
  refine okD F sc_need_words rfl rfl fun cd A outer s H E hg hr tk => ?_
  have Y : WSs (cxD P w K mg base ["field", "some", "words", "word"] "need_words" s_need_words f cd A outer s H E) K CA (wxD E) (defBody s_need_words) _ _ := wss_cons (ws_if (wt_not (wt_val (we_cb (sim_isT Kt) (wa_cons (we_var (pv 1)) (wa_cons (we_tup (wa_cons (we_ty (pe_bltn (by rfl) T.z_list boot_listU rfl)) (wa_cons (we_ty (pe_bltn (by rfl) T.z_tuple boot_tupleU rfl)) (wa_nil)))) (wa_nil))) (fun a => pe_callB call_isiTU (by rfl) T.z_isinstance boot_isinstanceU a)))) (wss_one (ws_never)) (wss_nil)) (wss_cons (ws_for (wi_seq (we_var (pv 1))) (wg_name (pg_name (i := 3) nd rfl (by first | exact Or.inl rfl | exact Or.inr rfl))) (wss_one (ws_expr (we_callP D_need_word noG (hr.mono (by decide)) tk (wa_cons (we_var (pv 0)) (wa_cons (we_var (pv 3)) (wa_cons (we_var (pv 2)) (wa_nil)))) B_need_word_3))) (fun i g b => ps_for (passes_of rfl) rfl i g b)) (wss_one (ws_if (wt_cmp op_lt sim_cB (we_lenS (we_var (pv 1)) T.z_len T.z_set) (we_cb sim_len (wa_cons (we_var (pv 1)) (wa_nil)) (fun a => pe_callB (call_lenU rfl call_lenRd) (by rfl) T.z_len boot_lenU a)) (by rfl)) (wss_one (ws_never)) (wss_nil))))
  exact ⟨_, Y⟩
theorem sc_Book_init : FnScope ["self", "up", "down", "writes", "moves", "finish", "counts", "bars", "notes"] ["self", "up", "down", "writes", "moves", "finish", "counts", "bars", "notes"] (defScope s_Book_init) := ⟨rfl, rfl, rfl, by decide +kernel, rfl, by decide +kernel, by decide +kernel⟩
theorem ok_Book_init {f_need_word : Addr} {fd_need_word : FuncData} {f_need_words : Addr} {fd_need_words : FuncData} (F : Fun K "__init__" "Book.__init__" s_Book_init f fd) (T : Txt mg) (C : Cst K CA mg) (Fl : Fld K CA) (Kt : KtOk K CA [0] (ktT [[.o 0]] tys)) (B_need_word_3 : KwB K CA fd_need_word ["field", "word", "words"] 3 [] (srcP 0 3)) (D_need_word : Df P w K mg base CA "need_word" false 1 ["field", "word", "words"] F_need_word f_need_word fd_need_word) (B_need_words_3 : KwB K CA fd_need_words ["field", "some", "words"] 3 [] (srcP 0 3)) (D_need_words : Df P w K mg base CA "need_words" false 2 ["field", "some", "words"] F_need_words f_need_words fd_need_words) : FnG P w K mg base false 3 f fd ["self", "up", "down", "writes", "moves", "finish", "counts", "bars", "notes"] (spD K CA 9 (bodyF 9 u_Book_init)) := by
  have nd := (sc_Book_init).nd
  refine okD F sc_Book_init rfl rfl fun cd A outer s H E hg hr tk => ?_
  have Y : WSs (cxD P w K mg base ["self", "up", "down", "writes", "moves", "finish", "counts", "bars", "notes"] "Book.__init__" s_Book_init f cd A outer s H E) K CA (wxD E) (defBody s_Book_init) _ _ := wss_cons (ws_expr (we_callP D_need_word noG (hr.mono (by decide)) tk (wa_cons (we_str) (wa_cons (we_var (pv 1)) (wa_cons (we_gv C.g_UPS) (wa_nil)))) B_need_word_3)) (wss_cons (ws_expr (we_callP D_need_word noG (hr.mono (by decide)) tk (wa_cons (we_str) (wa_cons (we_var (pv 2)) (wa_cons (we_gv C.g_DOWNS) (wa_nil)))) B_need_word_3)) (wss_cons (ws_expr (we_callP D_need_word noG (hr.mono (by decide)) tk (wa_cons (we_str) (wa_cons (we_var (pv 3)) (wa_cons (we_gv C.g_WRITES) (wa_nil)))) B_need_word_3)) (wss_cons (ws_expr (we_callP D_need_word noG (hr.mono (by decide)) tk (wa_cons (we_str) (wa_cons (we_var (pv 4)) (wa_cons (we_gv C.g_MOVES) (wa_nil)))) B_need_word_3)) (wss_cons (ws_expr (we_callP D_need_word noG (hr.mono (by decide)) tk (wa_cons (we_str) (wa_cons (we_var (pv 5)) (wa_cons (we_gv C.g_FINISHES) (wa_nil)))) B_need_word_3)) (wss_cons (ws_expr (we_callP D_need_word noG (hr.mono (by decide)) tk (wa_cons (we_str) (wa_cons (we_var (pv 6)) (wa_cons (we_gv C.g_COUNTS) (wa_nil)))) B_need_word_3)) (wss_cons (ws_expr (we_callP D_need_words noG (hr.mono (by decide)) tk (wa_cons (we_str) (wa_cons (we_var (pv 7)) (wa_cons (we_gv C.g_BARS) (wa_nil)))) B_need_words_3)) (wss_cons (ws_expr (we_callP D_need_words noG (hr.mono (by decide)) tk (wa_cons (we_str) (wa_cons (we_var (pv 8)) (wa_cons (we_gv C.g_NOTES) (wa_nil)))) B_need_words_3)) (wss_cons (ws_asg (we_tup (wa_cons (we_var (pv 1)) (wa_cons (we_var (pv 2)) (wa_cons (we_var (pv 3)) (wa_cons (we_var (pv 4)) (wa_cons (we_var (pv 5)) (wa_cons (we_var (pv 6)) (wa_nil)))))))) (wg_fld (W := wxD E) Fl.x_b_words (we_var (pv 0)))) (wss_cons (ws_asg (we_cb sim_tupOf (wa_cons (we_cb (sim_srt (nm := false)) (wa_cons (we_var (pv 7)) (wa_nil)) (fun a => pe_callB call_srt (by rfl) T.z_sorted boot_sortedU a)) (wa_nil)) (fun a => pe_callTy call_tupOf (by rfl) T.z_tuple boot_tupleU a)) (wg_fld (W := wxD E) Fl.x_b_bars (we_var (pv 0)))) (wss_one (ws_asg (we_cb sim_tupOf (wa_cons (we_cb (sim_srt (nm := false)) (wa_cons (we_var (pv 8)) (wa_nil)) (fun a => pe_callB call_srt (by rfl) T.z_sorted boot_sortedU a)) (wa_nil)) (fun a => pe_callTy call_tupOf (by rfl) T.z_tuple boot_tupleU a)) (wg_fld (W := wxD E) Fl.x_b_notes (we_var (pv 0))))))))))))))
  exact ⟨_, Y⟩
theorem sc__law_made : FnScope ["_law_told", "_law_one", "_law_two", "_law_four"] ["_law_told"] (defScope s__law_made) := ⟨rfl, rfl, rfl, by decide +kernel, rfl, by decide +kernel, by decide +kernel⟩
theorem ok__law_made {f_Book_init : Addr} {fd_Book_init : FuncData} (F : Fun K "_law_made" "_law_made" s__law_made f fd) (T : Txt mg) (C : Cst K CA mg) (Fl : Fld K CA) (Kt : KtOk K CA [0] (ktT [[.o 0]] tys)) (B_Book_init_1_notes_bars_counts_finish_moves_writes_down_up : KwB K CA fd_Book_init ["self", "up", "down", "writes", "moves", "finish", "counts", "bars", "notes"] 1 ["notes", "bars", "counts", "finish", "moves", "writes", "down", "up"] ([.p 0, .k 7, .k 6, .k 5, .k 4, .k 3, .k 2, .k 1, .k 0])) (N_Book : Mkd P w K mg base CA 0 "Book" 3 ["self", "up", "down", "writes", "moves", "finish", "counts", "bars", "notes"] F_Book_init f_Book_init fd_Book_init) : FnG P w K mg base true 5 f fd ["_law_told"] (spD K CA 1 (bodyF 4 u__law_made)) := by
  have nd := (sc__law_made).nd
  refine okD F sc__law_made rfl rfl fun cd A outer s H E hg hr tk => ?_
  have Y : WSs (cxD P w K mg base ["_law_told", "_law_one", "_law_two", "_law_four"] "_law_made" s__law_made f cd A outer s H E) K CA (wxD E) (defBody s__law_made) _ _ := wss_cons (ws_par (wa_cons (we_ix (ixU (hu_of hr)) sim_ix (we_var (pv 0)) (we_str)) (wa_cons (we_ix (ixU (hu_of hr)) sim_ix (we_var (pv 0)) (we_str)) (wa_nil))) (fun q => ps_par (i := 1) (j := 2) rfl nd rfl rfl (by decide) rfl rfl q (by rfl))) (wss_cons (ws_set (we_lst false (wa_cons (we_ix (ixU (hu_of hr)) sim_ix (we_var (pv 0)) (we_str)) (wa_cons (we_ix (ixU (hu_of hr)) sim_ix (we_var (pv 0)) (we_str)) (wa_cons (we_ix (ixU (hu_of hr)) sim_ix (we_var (pv 0)) (we_str)) (wa_cons (we_ix (ixU (hu_of hr)) sim_ix (we_var (pv 0)) (we_str)) (wa_nil)))))) (fun q => ps_set (i := 3) nd rfl (by first | exact Or.inl rfl | exact Or.inr rfl) q)) (wss_one (ws_ret (we_makeK0 true N_Book (hr.mono (by decide)) tk (wk_cons (we_var (pv 2)) (wk_cons (we_var (pv 1)) (wk_cons (we_ix (ixU (hu_of hr)) sim_ix (we_var (pv 3)) (we_int)) (wk_cons (we_ix (ixU (hu_of hr)) sim_ix (we_var (pv 3)) (we_int)) (wk_cons (we_ix (ixU (hu_of hr)) sim_ix (we_var (pv 3)) (we_int)) (wk_cons (we_ix (ixU (hu_of hr)) sim_ix (we_var (pv 3)) (we_int)) (wk_cons (we_ix (ixU (hu_of hr)) sim_ix (we_var (pv 0)) (we_str)) (wk_cons (we_ix (ixU (hu_of hr)) sim_ix (we_var (pv 0)) (we_str)) (wk_nil))))))))) B_Book_init_1_notes_bars_counts_finish_moves_writes_down_up))))
  exact ⟨_, Y⟩
theorem sc__law_due : FnScope ["_law_told", "_law_found", "_law_name"] ["_law_told"] (defScope s__law_due) := ⟨rfl, rfl, rfl, by decide +kernel, rfl, by decide +kernel, by decide +kernel⟩
theorem ok__law_due  (F : Fun K "_law_due" "_law_due" s__law_due f fd) (T : Txt mg) (C : Cst K CA mg) (Fl : Fld K CA) (Kt : KtOk K CA [0] (ktT [[.o 0]] tys))  : FnG P w K mg base true 1 f fd ["_law_told"] (spD K CA 1 (bodyF 3 u__law_due)) := by
  have nd := (sc__law_due).nd
  refine okD F sc__law_due rfl rfl fun cd A outer s H E hg hr tk => ?_
  have Y : WSs (cxD P w K mg base ["_law_told", "_law_found", "_law_name"] "_law_due" s__law_due f cd A outer s H E) K CA (wxD E) (defBody s__law_due) _ _ := wss_cons (ws_setLc false (i := 1) rfl nd rfl rfl (own := [("_law_name", 2)]) (wi_seq (we_lst false (wa_cons (we_str) (wa_cons (we_str) (wa_cons (we_str) (wa_cons (we_str) (wa_cons (we_str) (wa_cons (we_str) (wa_nil))))))))) (blkOk_by (N := ["_law_told", "_law_found", "_law_name"]) (sc := defScope s__law_due) (by decide +kernel)) (fun s H C cl fp => wg_name (pg_name (i := 2) nd rfl (by first | exact Or.inl rfl | exact Or.inr rfl))) (fun s H C cl fp => wts_nil) (fun s H C cl fp => we_ix (ixU (hu_of hr)) sim_ix (we_var (pv 0)) (we_var (pv 2))) (by decide)) (wss_one (ws_ret (we_op op_addU (sim_add (nm := false)) (we_var (pv 1)) (we_lst false (wa_cons (we_cb sim_tupOf (wa_cons (we_cb (sim_srt (nm := false)) (wa_cons (we_ix (ixU (hu_of hr)) sim_ix (we_var (pv 0)) (we_str)) (wa_nil)) (fun a => pe_callB call_srt (by rfl) T.z_sorted boot_sortedU a)) (wa_nil)) (fun a => pe_callTy call_tupOf (by rfl) T.z_tuple boot_tupleU a)) (wa_cons (we_cb sim_tupOf (wa_cons (we_cb (sim_srt (nm := false)) (wa_cons (we_ix (ixU (hu_of hr)) sim_ix (we_var (pv 0)) (we_str)) (wa_nil)) (fun a => pe_callB call_srt (by rfl) T.z_sorted boot_sortedU a)) (wa_nil)) (fun a => pe_callTy call_tupOf (by rfl) T.z_tuple boot_tupleU a)) (wa_nil)))))))
  exact ⟨_, Y⟩
theorem sc_Book_eq : FnScope ["self", "other"] ["self", "other"] (defScope s_Book_eq) := ⟨rfl, rfl, rfl, by decide +kernel, rfl, by decide +kernel, by decide +kernel⟩
theorem ok_Book_eq  (F : Fun K "__eq__" "Book.__eq__" s_Book_eq f fd) (T : Txt mg) (C : Cst K CA mg) (Fl : Fld K CA) (Kt : KtOk K CA [0] (ktT [[.o 0]] tys))  : FnG P w K mg base false 1 f fd ["self", "other"] (spD K CA 2 (bodyF 2 u_Book_eq)) := by
  have nd := (sc_Book_eq).nd
  refine okD F sc_Book_eq rfl rfl fun cd A outer s H E hg hr tk => ?_
  have Y : WSs (cxD P w K mg base ["self", "other"] "Book.__eq__" s_Book_eq f cd A outer s H E) K CA (wxD E) (defBody s_Book_eq) _ _ := wss_cons (ws_if (wt_not (wt_val (we_cb (sim_isi Kt) (wa_cons (we_var (pv 1)) (wa_cons (we_gv C.g_Book) (wa_nil))) (fun a => pe_callB call_isiU (by rfl) T.z_isinstance boot_isinstanceU a)))) (wss_one (ws_ret (we_bl))) (wss_nil)) (wss_one (ws_ret (we_and (we_cmp (op_eqU hr.units) sim_eq (we_fld Fl.x_b_words (we_var (pv 0))) (we_fld Fl.x_b_words (we_var (pv 1))) (by rfl)) (we_and (we_cmp (op_eqU hr.units) sim_eq (we_fld Fl.x_b_bars (we_var (pv 0))) (we_fld Fl.x_b_bars (we_var (pv 1))) (by rfl)) (we_one (we_cmp (op_eqU hr.units) sim_eq (we_fld Fl.x_b_notes (we_var (pv 0))) (we_fld Fl.x_b_notes (we_var (pv 1))) (by rfl)))))))
  exact ⟨_, Y⟩
theorem sc_Book_bars : FnScope ["self"] ["self"] (defScope s_Book_bars) := ⟨rfl, rfl, rfl, by decide +kernel, rfl, by decide +kernel, by decide +kernel⟩
theorem ok_Book_bars  (F : Fun K "bars" "Book.bars" s_Book_bars f fd) (T : Txt mg) (C : Cst K CA mg) (Fl : Fld K CA) (Kt : KtOk K CA [0] (ktT [[.o 0]] tys))  : FnOk P w K mg base L2.CX0 1 f fd ["self"] (spD K CA 1 (noxF (bodyF 1 u_Book_bars))) := by
  have nd := (sc_Book_bars).nd
  refine okP F sc_Book_bars rfl rfl fun cd A outer s H E hr => ?_
  have Y : WSs (cxOf L2.CX0 P w K mg base ["self"] "Book.bars" (defScope s_Book_bars) f cd A outer s H E).nox K CA W0 (defBody s_Book_bars) _ _ := wss_one (ws_ret (we_fld Fl.x_b_bars (we_var (pv 0))))
  exact ⟨_, Y⟩
theorem sc_is_kind : FnScope ["thing"] ["thing"] (defScope s_is_kind) := ⟨rfl, rfl, rfl, by decide +kernel, rfl, by decide +kernel, by decide +kernel⟩
theorem ok_is_kind  (F : Fun K "is_kind" "is_kind" s_is_kind f fd) (T : Txt mg) (C : Cst K CA mg) (Fl : Fld K CA) (Kt : KtOk K CA [0] (ktT [[.o 0]] tys))  : FnG P w K mg base false 1 f fd ["thing"] (spD K CA 1 (bodyF 1 u_is_kind)) := by
  have nd := (sc_is_kind).nd
  refine okD F sc_is_kind rfl rfl fun cd A outer s H E hg hr tk => ?_
  have Y : WSs (cxD P w K mg base ["thing"] "is_kind" s_is_kind f cd A outer s H E) K CA (wxD E) (defBody s_is_kind) _ _ := wss_one (ws_ret (we_and (we_cb (sim_isi Kt) (wa_cons (we_var (pv 0)) (wa_cons (we_ty (pe_bltn (by rfl) T.z_str boot_strU rfl)) (wa_nil))) (fun a => pe_callB call_isiU (by rfl) T.z_isinstance boot_isinstanceU a)) (we_one (we_cmp (op_inU (hu_of hr)) (sim_in (neg := false)) (we_var (pv 0)) (we_gv C.g_KINDS) (by rfl)))))
  exact ⟨_, Y⟩
theorem sc_Book_up : FnScope ["self"] ["self"] (defScope s_Book_up) := ⟨rfl, rfl, rfl, by decide +kernel, rfl, by decide +kernel, by decide +kernel⟩
theorem ok_Book_up  (F : Fun K "up" "Book.up" s_Book_up f fd) (T : Txt mg) (C : Cst K CA mg) (Fl : Fld K CA) (Kt : KtOk K CA [0] (ktT [[.o 0]] tys))  : FnOk P w K mg base L2.CX0 1 f fd ["self"] (spD K CA 1 (noxF (bodyF 1 u_Book_up))) := by
  have nd := (sc_Book_up).nd
  refine okP F sc_Book_up rfl rfl fun cd A outer s H E hr => ?_
  have Y : WSs (cxOf L2.CX0 P w K mg base ["self"] "Book.up" (defScope s_Book_up) f cd A outer s H E).nox K CA W0 (defBody s_Book_up) _ _ := wss_one (ws_ret (we_ix (ixU (hu_of hr)) sim_ix (we_fld Fl.x_b_words (we_var (pv 0))) (we_int)))
  exact ⟨_, Y⟩
theorem sc_Book_down : FnScope ["self"] ["self"] (defScope s_Book_down) := ⟨rfl, rfl, rfl, by decide +kernel, rfl, by decide +kernel, by decide +kernel⟩
theorem ok_Book_down  (F : Fun K "down" "Book.down" s_Book_down f fd) (T : Txt mg) (C : Cst K CA mg) (Fl : Fld K CA) (Kt : KtOk K CA [0] (ktT [[.o 0]] tys))  : FnOk P w K mg base L2.CX0 1 f fd ["self"] (spD K CA 1 (noxF (bodyF 1 u_Book_down))) := by
  have nd := (sc_Book_down).nd
  refine okP F sc_Book_down rfl rfl fun cd A outer s H E hr => ?_
  have Y : WSs (cxOf L2.CX0 P w K mg base ["self"] "Book.down" (defScope s_Book_down) f cd A outer s H E).nox K CA W0 (defBody s_Book_down) _ _ := wss_one (ws_ret (we_ix (ixU (hu_of hr)) sim_ix (we_fld Fl.x_b_words (we_var (pv 0))) (we_int)))
  exact ⟨_, Y⟩
theorem sc_Book_writes : FnScope ["self"] ["self"] (defScope s_Book_writes) := ⟨rfl, rfl, rfl, by decide +kernel, rfl, by decide +kernel, by decide +kernel⟩
theorem ok_Book_writes  (F : Fun K "writes" "Book.writes" s_Book_writes f fd) (T : Txt mg) (C : Cst K CA mg) (Fl : Fld K CA) (Kt : KtOk K CA [0] (ktT [[.o 0]] tys))  : FnOk P w K mg base L2.CX0 1 f fd ["self"] (spD K CA 1 (noxF (bodyF 1 u_Book_writes))) := by
  have nd := (sc_Book_writes).nd
  refine okP F sc_Book_writes rfl rfl fun cd A outer s H E hr => ?_
  have Y : WSs (cxOf L2.CX0 P w K mg base ["self"] "Book.writes" (defScope s_Book_writes) f cd A outer s H E).nox K CA W0 (defBody s_Book_writes) _ _ := wss_one (ws_ret (we_ix (ixU (hu_of hr)) sim_ix (we_fld Fl.x_b_words (we_var (pv 0))) (we_int)))
  exact ⟨_, Y⟩
theorem sc_Book_moves : FnScope ["self"] ["self"] (defScope s_Book_moves) := ⟨rfl, rfl, rfl, by decide +kernel, rfl, by decide +kernel, by decide +kernel⟩
theorem ok_Book_moves  (F : Fun K "moves" "Book.moves" s_Book_moves f fd) (T : Txt mg) (C : Cst K CA mg) (Fl : Fld K CA) (Kt : KtOk K CA [0] (ktT [[.o 0]] tys))  : FnOk P w K mg base L2.CX0 1 f fd ["self"] (spD K CA 1 (noxF (bodyF 1 u_Book_moves))) := by
  have nd := (sc_Book_moves).nd
  refine okP F sc_Book_moves rfl rfl fun cd A outer s H E hr => ?_
  have Y : WSs (cxOf L2.CX0 P w K mg base ["self"] "Book.moves" (defScope s_Book_moves) f cd A outer s H E).nox K CA W0 (defBody s_Book_moves) _ _ := wss_one (ws_ret (we_ix (ixU (hu_of hr)) sim_ix (we_fld Fl.x_b_words (we_var (pv 0))) (we_int)))
  exact ⟨_, Y⟩
theorem sc_Book_finish : FnScope ["self"] ["self"] (defScope s_Book_finish) := ⟨rfl, rfl, rfl, by decide +kernel, rfl, by decide +kernel, by decide +kernel⟩
theorem ok_Book_finish  (F : Fun K "finish" "Book.finish" s_Book_finish f fd) (T : Txt mg) (C : Cst K CA mg) (Fl : Fld K CA) (Kt : KtOk K CA [0] (ktT [[.o 0]] tys))  : FnOk P w K mg base L2.CX0 1 f fd ["self"] (spD K CA 1 (noxF (bodyF 1 u_Book_finish))) := by
  have nd := (sc_Book_finish).nd
  refine okP F sc_Book_finish rfl rfl fun cd A outer s H E hr => ?_
  have Y : WSs (cxOf L2.CX0 P w K mg base ["self"] "Book.finish" (defScope s_Book_finish) f cd A outer s H E).nox K CA W0 (defBody s_Book_finish) _ _ := wss_one (ws_ret (we_ix (ixU (hu_of hr)) sim_ix (we_fld Fl.x_b_words (we_var (pv 0))) (we_int)))
  exact ⟨_, Y⟩
theorem sc_Book_counts : FnScope ["self"] ["self"] (defScope s_Book_counts) := ⟨rfl, rfl, rfl, by decide +kernel, rfl, by decide +kernel, by decide +kernel⟩
theorem ok_Book_counts  (F : Fun K "counts" "Book.counts" s_Book_counts f fd) (T : Txt mg) (C : Cst K CA mg) (Fl : Fld K CA) (Kt : KtOk K CA [0] (ktT [[.o 0]] tys))  : FnOk P w K mg base L2.CX0 1 f fd ["self"] (spD K CA 1 (noxF (bodyF 1 u_Book_counts))) := by
  have nd := (sc_Book_counts).nd
  refine okP F sc_Book_counts rfl rfl fun cd A outer s H E hr => ?_
  have Y : WSs (cxOf L2.CX0 P w K mg base ["self"] "Book.counts" (defScope s_Book_counts) f cd A outer s H E).nox K CA W0 (defBody s_Book_counts) _ _ := wss_one (ws_ret (we_ix (ixU (hu_of hr)) sim_ix (we_fld Fl.x_b_words (we_var (pv 0))) (we_int)))
  exact ⟨_, Y⟩
theorem sc_Book_notes : FnScope ["self"] ["self"] (defScope s_Book_notes) := ⟨rfl, rfl, rfl, by decide +kernel, rfl, by decide +kernel, by decide +kernel⟩
theorem ok_Book_notes  (F : Fun K "notes" "Book.notes" s_Book_notes f fd) (T : Txt mg) (C : Cst K CA mg) (Fl : Fld K CA) (Kt : KtOk K CA [0] (ktT [[.o 0]] tys))  : FnOk P w K mg base L2.CX0 1 f fd ["self"] (spD K CA 1 (noxF (bodyF 1 u_Book_notes))) := by
  have nd := (sc_Book_notes).nd
  refine okP F sc_Book_notes rfl rfl fun cd A outer s H E hr => ?_
  have Y : WSs (cxOf L2.CX0 P w K mg base ["self"] "Book.notes" (defScope s_Book_notes) f cd A outer s H E).nox K CA W0 (defBody s_Book_notes) _ _ := wss_one (ws_ret (we_fld Fl.x_b_notes (we_var (pv 0))))
  exact ⟨_, Y⟩
theorem sc__law_all_fields : FnScope ["_law_made_here"] ["_law_made_here"] (defScope s__law_all_fields) := ⟨rfl, rfl, rfl, by decide +kernel, rfl, by decide +kernel, by decide +kernel⟩
theorem ok__law_all_fields  (F : Fun K "_law_all_fields" "_law_all_fields" s__law_all_fields f fd) (T : Txt mg) (C : Cst K CA mg) (Fl : Fld K CA) (Kt : KtOk K CA [0] (ktT [[.o 0]] tys)) (P_Book_notes : Prd P w K mg base CA 0 "notes" 1 ["self"] F_Book_notes) (P_Book_bars : Prd P w K mg base CA 0 "bars" 1 ["self"] F_Book_bars) (P_Book_counts : Prd P w K mg base CA 0 "counts" 1 ["self"] F_Book_counts) (P_Book_finish : Prd P w K mg base CA 0 "finish" 1 ["self"] F_Book_finish) (P_Book_moves : Prd P w K mg base CA 0 "moves" 1 ["self"] F_Book_moves) (P_Book_writes : Prd P w K mg base CA 0 "writes" 1 ["self"] F_Book_writes) (P_Book_down : Prd P w K mg base CA 0 "down" 1 ["self"] F_Book_down) (P_Book_up : Prd P w K mg base CA 0 "up" 1 ["self"] F_Book_up) : FnG P w K mg base true 3 f fd ["_law_made_here"] (spD K CA 1 (bodyF 1 u__law_all_fields)) := by
  have nd := (sc__law_all_fields).nd
  refine okD F sc__law_all_fields rfl rfl fun cd A outer s H E hg hr tk => ?_
  have Y : WSs (cxD P w K mg base ["_law_made_here"] "_law_all_fields" s__law_all_fields f cd A outer s H E) K CA (wxD E) (defBody s__law_all_fields) _ _ := wss_one (ws_ret (we_lst false (wa_cons (we_pr P_Book_up (hr.mono (by decide)) (we_var (pv 0))) (wa_cons (we_pr P_Book_down (hr.mono (by decide)) (we_var (pv 0))) (wa_cons (we_pr P_Book_writes (hr.mono (by decide)) (we_var (pv 0))) (wa_cons (we_pr P_Book_moves (hr.mono (by decide)) (we_var (pv 0))) (wa_cons (we_pr P_Book_finish (hr.mono (by decide)) (we_var (pv 0))) (wa_cons (we_pr P_Book_counts (hr.mono (by decide)) (we_var (pv 0))) (wa_cons (we_pr P_Book_bars (hr.mono (by decide)) (we_var (pv 0))) (wa_cons (we_pr P_Book_notes (hr.mono (by decide)) (we_var (pv 0))) (wa_nil)))))))))))
  exact ⟨_, Y⟩
theorem sc_law : FnScope ["_law_script", "_law_draw", "_law_turn", "_law_told", "_law_made_here", "_law_due_here", "_law_twin", "_law_near_here", "_law_is_same", "_law_thing_here", "_law_few", "_law_plain", "_law_shown", "_law_one", "_law_odd_here"] ["_law_script"] (defScope s_law) := ⟨rfl, rfl, rfl, by decide +kernel, rfl, by decide +kernel, by decide +kernel⟩
theorem ok_law {f__law_begun : Addr} {fd__law_begun : FuncData} {f__law_all_words : Addr} {fd__law_all_words : FuncData} {f__law_made : Addr} {fd__law_made : FuncData} {f__law_due : Addr} {fd__law_due : FuncData} {f__law_all_fields : Addr} {fd__law_all_fields : FuncData} {f_Book_eq : Addr} {fd_Book_eq : FuncData} {f__law_near : Addr} {fd__law_near : FuncData} {f_Book_init : Addr} {fd_Book_init : FuncData} {f__law_odd : Addr} {fd__law_odd : FuncData} {f_is_kind : Addr} {fd_is_kind : FuncData} (F : Fun K "law" "law" s_law f fd) (T : Txt mg) (C : Cst K CA mg) (Fl : Fld K CA) (Kt : KtOk K CA [0] (ktT [[.o 0]] tys)) (B__law_begun_1 : KwB K CA fd__law_begun ["_law_script"] 1 [] (srcP 0 1)) (D__law_begun : Df P w K mg base CA "_law_begun" true 1 ["_law_script"] F__law_begun f__law_begun fd__law_begun) (B__law_all_words_1 : KwB K CA fd__law_all_words ["_law_draw"] 1 [] (srcP 0 1)) (D__law_all_words : Df P w K mg base CA "_law_all_words" true 4 ["_law_draw"] F__law_all_words f__law_all_words fd__law_all_words) (B__law_made_1 : KwB K CA fd__law_made ["_law_told"] 1 [] (srcP 0 1)) (D__law_made : Df P w K mg base CA "_law_made" true 5 ["_law_told"] F__law_made f__law_made fd__law_made) (B__law_due_1 : KwB K CA fd__law_due ["_law_told"] 1 [] (srcP 0 1)) (D__law_due : Df P w K mg base CA "_law_due" true 1 ["_law_told"] F__law_due f__law_due fd__law_due) (B__law_all_fields_1 : KwB K CA fd__law_all_fields ["_law_made_here"] 1 [] (srcP 0 1)) (D__law_all_fields : Df P w K mg base CA "_law_all_fields" true 3 ["_law_made_here"] F__law_all_fields f__law_all_fields fd__law_all_fields) (O_Book : OwnE P w K mg base CA 0 (fun t => decide (t ∈ [.b "NoneType", .b "bool", .b "int", .b "str", .b "list", .b "tuple", .b "dict", .o 0])) 1 ["self", "other"] F_Book_eq f_Book_eq fd_Book_eq) (B__law_near_2 : KwB K CA fd__law_near ["_law_draw", "_law_told"] 2 [] (srcP 0 2)) (D__law_near : Df P w K mg base CA "_law_near" true 5 ["_law_draw", "_law_told"] F__law_near f__law_near fd__law_near) (P_Book_bars : Prd P w K mg base CA 0 "bars" 1 ["self"] F_Book_bars) (B_Book_init_1_counts_notes : KwB K CA fd_Book_init ["self", "up", "down", "writes", "moves", "finish", "counts", "bars", "notes"] 1 ["counts", "notes"] ([.p 0, .c (.str "one"), .c (.str "one"), .c (.str "plain"), .c (.str "now"), .c (.str "one"), .k 0, .c (.tup []), .k 1])) (N_Book : Mkd P w K mg base CA 0 "Book" 3 ["self", "up", "down", "writes", "moves", "finish", "counts", "bars", "notes"] F_Book_init f_Book_init fd_Book_init) (B_Book_init_1_bars : KwB K CA fd_Book_init ["self", "up", "down", "writes", "moves", "finish", "counts", "bars", "notes"] 1 ["bars"] ([.p 0, .c (.str "one"), .c (.str "one"), .c (.str "plain"), .c (.str "now"), .c (.str "one"), .c (.str "last"), .k 0, .c (.tup [])])) (B_Book_init_1_up : KwB K CA fd_Book_init ["self", "up", "down", "writes", "moves", "finish", "counts", "bars", "notes"] 1 ["up"] ([.p 0, .k 0, .c (.str "one"), .c (.str "plain"), .c (.str "now"), .c (.str "one"), .c (.str "last"), .c (.tup []), .c (.tup [])])) (B_Book_init_1 : KwB K CA fd_Book_init ["self", "up", "down", "writes", "moves", "finish", "counts", "bars", "notes"] 1 [] ([.p 0, .c (.str "one"), .c (.str "one"), .c (.str "plain"), .c (.str "now"), .c (.str "one"), .c (.str "last"), .c (.tup []), .c (.tup [])])) (B__law_odd_1 : KwB K CA fd__law_odd ["_law_draw"] 1 [] (srcP 0 1)) (D__law_odd : Df P w K mg base CA "_law_odd" true 4 ["_law_draw"] F__law_odd f__law_odd fd__law_odd) (B_is_kind_1 : KwB K CA fd_is_kind ["thing"] 1 [] (srcP 0 1)) (D_is_kind : Df P w K mg base CA "is_kind" false 1 ["thing"] F_is_kind f_is_kind fd_is_kind) (B_is_kind_0_thing : KwB K CA fd_is_kind ["thing"] 0 ["thing"] ([.k 0])) : FnG P w K mg base true 6 f fd ["_law_script"] (spD K CA 1 (bodyF 15 u_law)) := by
  have nd := (sc_law).nd
  refine okD F sc_law rfl rfl fun cd A outer s H E hg hr tk => ?_
  have Y : WSs (cxD P w K mg base ["_law_script", "_law_draw", "_law_turn", "_law_told", "_law_made_here", "_law_due_here", "_law_twin", "_law_near_here", "_law_is_same", "_law_thing_here", "_law_few", "_law_plain", "_law_shown", "_law_one", "_law_odd_here"] "law" s_law f cd A outer s H E) K CA (wxD E) (defBody s_law) _ _ := wss_cons (ws_set (we_callP D__law_begun hg (hr.mono (by decide)) tk (wa_cons (we_var (pv 0)) (wa_nil)) B__law_begun_1) (fun q => ps_set (i := 1) nd rfl (by first | exact Or.inl rfl | exact Or.inr rfl) q)) (wss_cons (ws_for (wi_rng1 (wa_cons (we_op op_addU (sim_add (nm := false)) (we_int) (we_cb sim_min (wa_cons (we_cb sim_len (wa_cons (we_var (pv 0)) (wa_nil)) (fun a => pe_callB (call_lenU rfl call_lenRd) (by rfl) T.z_len boot_lenU a)) (wa_cons (we_int) (wa_nil))) (fun a => pe_callB call_minU (by rfl) T.z_min boot_minU a))) (wa_nil)) (fun a => pi_range1 (by rfl) T.z_range a)) (wg_name (pg_name (i := 2) nd rfl (by first | exact Or.inl rfl | exact Or.inr rfl))) (wss_cons (ws_set (we_callP D__law_all_words hg (hr.mono (by decide)) tk (wa_cons (we_var (pv 1)) (wa_nil)) B__law_all_words_1) (fun q => ps_set (i := 3) nd rfl (by first | exact Or.inl rfl | exact Or.inr rfl) q)) (wss_cons (ws_par (wa_cons (we_callP D__law_made hg (hr.mono (by decide)) tk (wa_cons (we_var (pv 3)) (wa_nil)) B__law_made_1) (wa_cons (we_callP D__law_due hg (hr.mono (by decide)) tk (wa_cons (we_var (pv 3)) (wa_nil)) B__law_due_1) (wa_nil))) (fun q => ps_par (i := 4) (j := 5) rfl nd rfl rfl (by decide) rfl rfl q (by rfl))) (wss_cons (ws_set (we_cb (sim_dctOf (nm := true)) (wa_cons (we_var (pv 3)) (wa_nil)) (fun a => pe_callTy call_dictD (by rfl) T.z_dict boot_dictU a)) (fun q => ps_set (i := 6) nd rfl (by first | exact Or.inl rfl | exact Or.inr rfl) q)) (wss_cons (ws_asg (we_tup (wa_cons (we_cb sim_tupOf (wa_cons (we_rev false (we_ix (ixU (hu_of hr)) sim_ix (we_var (pv 3)) (we_str))) (wa_nil)) (fun a => pe_callTy call_tupOf (by rfl) T.z_tuple boot_tupleU a)) (wa_cons (we_cb sim_tupOf (wa_cons (we_rev false (we_ix (ixU (hu_of hr)) sim_ix (we_var (pv 3)) (we_str))) (wa_nil)) (fun a => pe_callTy call_tupOf (by rfl) T.z_tuple boot_tupleU a)) (wa_nil)))) (wg_tup rfl (wgs_cons (wg_sub (W := wxD E) (hu_of hr) (we_var (pv 6)) (we_str) (fun a b c => pg_sub a b c)) (wgs_cons (wg_sub (W := wxD E) (hu_of hr) (we_var (pv 6)) (we_str) (fun a b c => pg_sub a b c)) (wgs_nil))))) (wss_cons (ws_expr (we_bm (T := "list") (r := rAppend) sim_append (we_ix (ixU (hu_of hr)) sim_ix (we_var (pv 3)) (we_str)) (wa_cons (we_non) (wa_nil)) (fun a b => pe_bm PySem.F.plainAttrs_list PySem.F.slot_list_append PySem.F.type_list_append mt_append a b))) (wss_cons (ws_expr (we_bm0 (T := "list") (r := rClear) sim_clear (we_ix (ixU (hu_of hr)) sim_ix (we_var (pv 3)) (we_str)) (fun a => pe_bm0 PySem.F.plainAttrs_list PySem.F.slot_list_clear PySem.F.type_list_clear mt_clear a))) (wss_cons (ws_if ((ww_or (wt_cmp (op_neU hr.units) sim_ne (we_cb sim_repr (wa_cons (we_callP D__law_all_fields hg (hr.mono (by decide)) tk (wa_cons (we_var (pv 4)) (wa_nil)) B__law_all_fields_1) (wa_nil)) (fun a => pe_callB (call_show (hg rfl) hr.units) (by rfl) T.z_repr boot_reprU a)) (we_cb sim_repr (wa_cons (we_var (pv 5)) (wa_nil)) (fun a => pe_callB (call_show (hg rfl) hr.units) (by rfl) T.z_repr boot_reprU a)) (by rfl)) (ww_or (wt_not (wt_cmp (op_ownEq O_Book (hr.mono (by decide)) rfl) (sim_own Kt) (we_var (pv 4)) (we_callP D__law_made hg (hr.mono (by decide)) tk (wa_cons (we_var (pv 6)) (wa_nil)) B__law_made_1) (by rfl))) (ww_or1 (wt_cmp (op_ownNe O_Book (hr.mono (by decide)) rfl) (sim_own Kt) (we_var (pv 4)) (we_callP D__law_made hg (hr.mono (by decide)) tk (wa_cons (we_var (pv 6)) (wa_nil)) B__law_made_1) (by rfl))))).wt) (wss_one (ws_ret (we_bl))) (wss_nil)) (wss_cons (ws_set (we_callP D__law_near hg (hr.mono (by decide)) tk (wa_cons (we_var (pv 1)) (wa_cons (we_var (pv 6)) (wa_nil))) B__law_near_2) (fun q => ps_set (i := 7) nd rfl (by first | exact Or.inl rfl | exact Or.inr rfl) q)) (wss_cons (ws_set (we_cmp (op_eqU hr.units) sim_eq (we_var (pv 5)) (we_callP D__law_due hg (hr.mono (by decide)) tk (wa_cons (we_var (pv 7)) (wa_nil)) B__law_due_1) (by rfl)) (fun q => ps_set (i := 8) nd rfl (by first | exact Or.inl rfl | exact Or.inr rfl) q)) (wss_cons (ws_if ((ww_or (wt_cmp (op_neU hr.units) sim_ne (we_cmp (op_ownEq O_Book (hr.mono (by decide)) rfl) (sim_own Kt) (we_var (pv 4)) (we_callP D__law_made hg (hr.mono (by decide)) tk (wa_cons (we_var (pv 7)) (wa_nil)) B__law_made_1) (by rfl)) (we_var (pv 8)) (by rfl)) (ww_or1 (wt_cmp (op_eqU hr.units) sim_eq (we_cmp (op_ownNe O_Book (hr.mono (by decide)) rfl) (sim_own Kt) (we_var (pv 4)) (we_callP D__law_made hg (hr.mono (by decide)) tk (wa_cons (we_var (pv 7)) (wa_nil)) B__law_made_1) (by rfl)) (we_var (pv 8)) (by rfl)))).wt) (wss_one (ws_ret (we_bl))) (wss_nil)) (wss_cons (ws_for (wi_seq (we_lst false (wa_cons (we_non) (wa_cons (we_var (pv 5)) (wa_cons (we_cb sim_repr (wa_cons (we_var (pv 5)) (wa_nil)) (fun a => pe_callB (call_show (hg rfl) hr.units) (by rfl) T.z_repr boot_reprU a)) (wa_cons (we_int) (wa_cons (we_tup (wa_nil)) (wa_cons (we_pr P_Book_bars (hr.mono (by decide)) (we_var (pv 4))) (wa_nil))))))))) (wg_name (pg_name (i := 9) nd rfl (by first | exact Or.inl rfl | exact Or.inr rfl))) (wss_one (ws_if ((ww_or (wt_cmp (op_ownEq O_Book (hr.mono (by decide)) rfl) (sim_own Kt) (we_var (pv 4)) (we_var (pv 9)) (by rfl)) (ww_or1 (wt_not (wt_cmp (op_ownNe O_Book (hr.mono (by decide)) rfl) (sim_own Kt) (we_var (pv 4)) (we_var (pv 9)) (by rfl))))).wt) (wss_one (ws_ret (we_bl))) (wss_nil))) (fun i g b => ps_for (passes_of rfl) rfl i g b)) (wss_cons (ws_set (we_lst false (wa_cons (we_make0 true N_Book (hr.mono (by decide)) tk B_Book_init_1) (wa_cons (we_makeK0 true N_Book (hr.mono (by decide)) tk (wk_cons (we_ix (ixU (hu_of hr)) sim_ix (we_var (pv 6)) (we_str)) (wk_nil)) B_Book_init_1_up) (wa_cons (we_makeK0 true N_Book (hr.mono (by decide)) tk (wk_cons (we_ix (ixU (hu_of hr)) sim_ix (we_var (pv 6)) (we_str)) (wk_nil)) B_Book_init_1_bars) (wa_cons (we_makeK0 true N_Book (hr.mono (by decide)) tk (wk_cons (we_ix (ixU (hu_of hr)) sim_ix (we_var (pv 6)) (we_str)) (wk_cons (we_ix (ixU (hu_of hr)) sim_ix (we_var (pv 6)) (we_str)) (wk_nil))) B_Book_init_1_counts_notes) (wa_nil)))))) (fun q => ps_set (i := 10) nd rfl (by first | exact Or.inl rfl | exact Or.inr rfl) q)) (wss_cons (ws_set (we_lst false (wa_cons (we_str) (wa_cons (we_str) (wa_cons (we_str) (wa_cons (we_str) (wa_cons (we_str) (wa_cons (we_str) (wa_cons (we_tup (wa_nil)) (wa_cons (we_tup (wa_nil)) (wa_nil)))))))))) (fun q => ps_set (i := 11) nd rfl (by first | exact Or.inl rfl | exact Or.inr rfl) q)) (wss_cons (ws_set (we_lst false (wa_cons (we_var (pv 11)) (wa_cons (we_op op_addU (sim_add (nm := false)) (we_lst false (wa_cons (we_ix (ixU (hu_of hr)) sim_ix (we_var (pv 5)) (we_int)) (wa_nil))) (we_slice false (we_var (pv 11)) (wo_some (we_int)) (wo_none))) (wa_cons (we_op op_addU (sim_add (nm := false)) (we_slice false (we_var (pv 11)) (wo_none) (wo_some (we_int))) (we_lst false (wa_cons (we_ix (ixU (hu_of hr)) sim_ix (we_var (pv 5)) (we_int)) (wa_cons (we_tup (wa_nil)) (wa_nil))))) (wa_cons (we_op op_addU (sim_add (nm := false)) (we_slice false (we_var (pv 11)) (wo_none) (wo_some (we_int))) (we_lst false (wa_cons (we_ix (ixU (hu_of hr)) sim_ix (we_var (pv 5)) (we_int)) (wa_cons (we_tup (wa_nil)) (wa_cons (we_ix (ixU (hu_of hr)) sim_ix (we_var (pv 5)) (we_int)) (wa_nil)))))) (wa_nil)))))) (fun q => ps_set (i := 12) nd rfl (by first | exact Or.inl rfl | exact Or.inr rfl) q)) (wss_cons (ws_if (wt_cmp (op_neU hr.units) sim_ne (we_cb sim_repr (wa_cons (we_lc false rfl nd (own := [("_law_one", 13)]) (wi_seq (we_var (pv 10))) (blkOk_by (N := ["_law_script", "_law_draw", "_law_turn", "_law_told", "_law_made_here", "_law_due_here", "_law_twin", "_law_near_here", "_law_is_same", "_law_thing_here", "_law_few", "_law_plain", "_law_shown", "_law_one", "_law_odd_here"]) (sc := defScope s_law) (by decide +kernel)) (fun s H C cl fp => wg_name (pg_name (i := 13) nd rfl (by first | exact Or.inl rfl | exact Or.inr rfl))) (fun s H C cl fp => wts_nil) (fun s H C cl fp => we_callP D__law_all_fields hg (hr.mono (by decide)) takes0 (wa_cons (we_var (pv 13)) (wa_nil)) B__law_all_fields_1) (by decide)) (wa_nil)) (fun a => pe_callB (call_show (hg rfl) hr.units) (by rfl) T.z_repr boot_reprU a)) (we_cb sim_repr (wa_cons (we_var (pv 12)) (wa_nil)) (fun a => pe_callB (call_show (hg rfl) hr.units) (by rfl) T.z_repr boot_reprU a)) (by rfl)) (wss_one (ws_ret (we_bl))) (wss_nil)) (wss_cons (ws_set (we_callP D__law_odd hg (hr.mono (by decide)) tk (wa_cons (we_var (pv 1)) (wa_nil)) B__law_odd_1) (fun q => ps_set (i := 14) nd rfl (by first | exact Or.inl rfl | exact Or.inr rfl) q)) (wss_cons (ws_set (we_lst false (wa_cons (we_callP D_is_kind noG (hr.mono (by decide)) tk (wa_cons (we_var (pv 14)) (wa_nil)) B_is_kind_1) (wa_cons (we_callK0 D_is_kind noG (hr.mono (by decide)) tk (wk_cons (we_str) (wk_nil)) B_is_kind_0_thing) (wa_cons (we_callP D_is_kind noG (hr.mono (by decide)) tk (wa_cons (we_str) (wa_nil)) B_is_kind_1) (wa_cons (we_callP D_is_kind noG (hr.mono (by decide)) tk (wa_cons (we_lst false (wa_cons (we_str) (wa_nil))) (wa_nil)) B_is_kind_1) (wa_cons (we_callP D_is_kind noG (hr.mono (by decide)) tk (wa_cons (we_var (pv 4)) (wa_nil)) B_is_kind_1) (wa_nil))))))) (fun q => ps_set (i := 3) nd rfl (by first | exact Or.inl rfl | exact Or.inr rfl) q)) (wss_one (ws_if (wt_cmp (op_neU hr.units) sim_ne (we_cb sim_repr (wa_cons (we_var (pv 3)) (wa_nil)) (fun a => pe_callB (call_show (hg rfl) hr.units) (by rfl) T.z_repr boot_reprU a)) (we_cb sim_repr (wa_cons (we_lst false (wa_cons (we_and (we_cb (sim_isi Kt) (wa_cons (we_var (pv 14)) (wa_cons (we_ty (pe_bltn (by rfl) T.z_str boot_strU rfl)) (wa_nil))) (fun a => pe_callB call_isiU (by rfl) T.z_isinstance boot_isinstanceU a)) (we_one (we_cmp (op_inU (hu_of hr)) (sim_in (neg := false)) (we_var (pv 14)) (we_tup (wa_cons (we_str) (wa_cons (we_str) (wa_nil)))) (by rfl)))) (wa_cons (we_bl) (wa_cons (we_bl) (wa_cons (we_bl) (wa_cons (we_bl) (wa_nil))))))) (wa_nil)) (fun a => pe_callB (call_show (hg rfl) hr.units) (by rfl) T.z_repr boot_reprU a)) (by rfl)) (wss_one (ws_ret (we_bl))) (wss_nil)))))))))))))))))))) (fun i g b => ps_for (passes_of rfl) rfl i g b)) (wss_one (ws_ret (we_cmp (op_eqU hr.units) sim_eq (we_tup (wa_cons (we_gv C.g_BARS) (wa_cons (we_gv C.g_NOTES) (wa_nil)))) (we_tup (wa_cons (we_tup (wa_cons (we_str) (wa_cons (we_str) (wa_cons (we_str) (wa_cons (we_str) (wa_cons (we_str) (wa_nil))))))) (wa_cons (we_tup (wa_cons (we_str) (wa_cons (we_str) (wa_cons (we_str) (wa_nil))))) (wa_nil)))) (by rfl)))))
  exact ⟨_, Y⟩
theorem all_mk {l : PySem.W.OpenLaw} {h : Heap} {fa : Addr} {C0 : Addr} {f0 : Addr} {od0 an0 : Option Addr} {sl0 : Array (Option Value)} {oc0 kV0 dc0 pm0 cd0 ct0 : Value} {f1 : Addr} {od1 an1 : Option Addr} {sl1 : Array (Option Value)} {oc1 kV1 dc1 pm1 cd1 ct1 : Value} {f2 : Addr} {od2 an2 : Option Addr} {sl2 : Array (Option Value)} {oc2 kV2 dc2 pm2 cd2 ct2 : Value} {f3 : Addr} {od3 an3 : Option Addr} {sl3 : Array (Option Value)} {oc3 kV3 dc3 pm3 cd3 ct3 : Value} {f4 : Addr} {od4 an4 : Option Addr} {sl4 : Array (Option Value)} {oc4 kV4 dc4 pm4 cd4 ct4 : Value} {f5 : Addr} {od5 an5 : Option Addr} {sl5 : Array (Option Value)} {oc5 kV5 dc5 pm5 cd5 ct5 : Value} {f6 : Addr} {od6 an6 : Option Addr} {sl6 : Array (Option Value)} {oc6 kV6 dc6 pm6 cd6 ct6 : Value} {f7 : Addr} {od7 an7 : Option Addr} {sl7 : Array (Option Value)} {oc7 kV7 dc7 pm7 cd7 ct7 : Value} {f8 : Addr} {od8 an8 : Option Addr} {sl8 : Array (Option Value)} {oc8 kV8 dc8 pm8 cd8 ct8 : Value} {f9 : Addr} {od9 an9 : Option Addr} {sl9 : Array (Option Value)} {oc9 kV9 dc9 pm9 cd9 ct9 : Value} {f10 : Addr} {od10 an10 : Option Addr} {sl10 : Array (Option Value)} {oc10 dc10 pm10 cd10 ct10 : Value} {f11 : Addr} {od11 an11 : Option Addr} {sl11 : Array (Option Value)} {oc11 kV11 dc11 pm11 cd11 ct11 : Value} {f12 : Addr} {od12 an12 : Option Addr} {sl12 : Array (Option Value)} {oc12 kV12 dc12 pm12 cd12 ct12 : Value} {f13 : Addr} {od13 an13 : Option Addr} {sl13 : Array (Option Value)} {oc13 kV13 dc13 pm13 cd13 ct13 : Value} {f14 : Addr} {od14 an14 : Option Addr} {sl14 : Array (Option Value)} {oc14 kV14 dc14 pm14 cd14 ct14 : Value} {p14 : Addr} {rs14 : List Value} {f15 : Addr} {od15 an15 : Option Addr} {sl15 : Array (Option Value)} {oc15 kV15 dc15 pm15 cd15 ct15 : Value} {f16 : Addr} {od16 an16 : Option Addr} {sl16 : Array (Option Value)} {oc16 kV16 dc16 pm16 cd16 ct16 : Value} {p16 : Addr} {rs16 : List Value} {f17 : Addr} {od17 an17 : Option Addr} {sl17 : Array (Option Value)} {oc17 kV17 dc17 pm17 cd17 ct17 : Value} {p17 : Addr} {rs17 : List Value} {f18 : Addr} {od18 an18 : Option Addr} {sl18 : Array (Option Value)} {oc18 kV18 dc18 pm18 cd18 ct18 : Value} {p18 : Addr} {rs18 : List Value} {f19 : Addr} {od19 an19 : Option Addr} {sl19 : Array (Option Value)} {oc19 kV19 dc19 pm19 cd19 ct19 : Value} {p19 : Addr} {rs19 : List Value} {f20 : Addr} {od20 an20 : Option Addr} {sl20 : Array (Option Value)} {oc20 kV20 dc20 pm20 cd20 ct20 : Value} {p20 : Addr} {rs20 : List Value} {f21 : Addr} {od21 an21 : Option Addr} {sl21 : Array (Option Value)} {oc21 kV21 dc21 pm21 cd21 ct21 : Value} {p21 : Addr} {rs21 : List Value} {f22 : Addr} {od22 an22 : Option Addr} {sl22 : Array (Option Value)} {oc22 kV22 dc22 pm22 cd22 ct22 : Value} {p22 : Addr} {rs22 : List Value} {f23 : Addr} {od23 an23 : Option Addr} {sl23 : Array (Option Value)} {oc23 kV23 dc23 pm23 cd23 ct23 : Value} {f24 : Addr} {od24 an24 : Option Addr} {sl24 : Array (Option Value)} {oc24 kV24 dc24 pm24 cd24 ct24 : Value} {kd10 : Addr} {td10_up : Tok} {td10_down : Tok} {td10_writes : Tok} {td10_moves : Tok} {td10_finish : Tok} {pd10_bars : Addr} {dd10_bars : Option Addr} {nd10_bars : Nat} {sd10_bars : Array (Option Value)} {td10_counts : Tok} {pd10_notes : Addr} {dd10_notes : Option Addr} {nd10_notes : Nat} {sd10_notes : Array (Option Value)} {t_UPS0 t_UPS1 t_UPS2 : Tok} {p_UPS : Addr} {dd_UPS : Option Addr} {n_UPS : Nat} {sl_UPS : Array (Option Value)} {t_DOWNS0 t_DOWNS1 : Tok} {p_DOWNS : Addr} {dd_DOWNS : Option Addr} {n_DOWNS : Nat} {sl_DOWNS : Array (Option Value)} {t_WRITES0 t_WRITES1 t_WRITES2 t_WRITES3 t_WRITES4 : Tok} {p_WRITES : Addr} {dd_WRITES : Option Addr} {n_WRITES : Nat} {sl_WRITES : Array (Option Value)} {t_MOVES0 t_MOVES1 : Tok} {p_MOVES : Addr} {dd_MOVES : Option Addr} {n_MOVES : Nat} {sl_MOVES : Array (Option Value)} {t_FINISHES0 t_FINISHES1 t_FINISHES2 : Tok} {p_FINISHES : Addr} {dd_FINISHES : Option Addr} {n_FINISHES : Nat} {sl_FINISHES : Array (Option Value)} {t_COUNTS0 t_COUNTS1 t_COUNTS2 : Tok} {p_COUNTS : Addr} {dd_COUNTS : Option Addr} {n_COUNTS : Nat} {sl_COUNTS : Array (Option Value)} {t_BARS0 t_BARS1 t_BARS2 t_BARS3 t_BARS4 : Tok} {p_BARS : Addr} {dd_BARS : Option Addr} {n_BARS : Nat} {sl_BARS : Array (Option Value)} {t_NOTES0 t_NOTES1 t_NOTES2 : Tok} {p_NOTES : Addr} {dd_NOTES : Option Addr} {n_NOTES : Nat} {sl_NOTES : Array (Option Value)} {t_KINDS0 t_KINDS1 : Tok} {p_KINDS : Addr} {dd_KINDS : Option Addr} {n_KINDS : Nat} {sl_KINDS : Array (Option Value)} (X : K.In h) (G : h.Ns mainGlobals mg) (hfa : mg "law" = some (.ref fa))
    (ac0 : PySem.W.nsIn K mainGlobals "Book" = some (some (.ref C0)))
    (a0 : PySem.W.nsIn K mainGlobals "_law_begun" = some (some (.ref f0)))
    (l0 : K.lookup f0 = some ⟨oc0, od0, .func (PySem.W.fnOf "_law_begun" "_law_begun" (defArgs s__law_begun) (defBody s__law_begun) (defScope s__law_begun) .none kV0 dc0 pm0 an0 cd0 ct0), sl0⟩)
    (c0 : PySem.W.codeIn K cd0 "_law_begun" = true)
    (k0 : PySem.W.keepIn K (.ref f0) = true)
    (a1 : PySem.W.nsIn K mainGlobals "_law_mixed" = some (some (.ref f1)))
    (l1 : K.lookup f1 = some ⟨oc1, od1, .func (PySem.W.fnOf "_law_mixed" "_law_mixed" (defArgs s__law_mixed) (defBody s__law_mixed) (defScope s__law_mixed) .none kV1 dc1 pm1 an1 cd1 ct1), sl1⟩)
    (c1 : PySem.W.codeIn K cd1 "_law_mixed" = true)
    (k1 : PySem.W.keepIn K (.ref f1) = true)
    (a2 : PySem.W.nsIn K mainGlobals "_law_take" = some (some (.ref f2)))
    (l2 : K.lookup f2 = some ⟨oc2, od2, .func (PySem.W.fnOf "_law_take" "_law_take" (defArgs s__law_take) (defBody s__law_take) (defScope s__law_take) .none kV2 dc2 pm2 an2 cd2 ct2), sl2⟩)
    (c2 : PySem.W.codeIn K cd2 "_law_take" = true)
    (k2 : PySem.W.keepIn K (.ref f2) = true)
    (a3 : PySem.W.nsIn K mainGlobals "_law_pick" = some (some (.ref f3)))
    (l3 : K.lookup f3 = some ⟨oc3, od3, .func (PySem.W.fnOf "_law_pick" "_law_pick" (defArgs s__law_pick) (defBody s__law_pick) (defScope s__law_pick) .none kV3 dc3 pm3 an3 cd3 ct3), sl3⟩)
    (c3 : PySem.W.codeIn K cd3 "_law_pick" = true)
    (k3 : PySem.W.keepIn K (.ref f3) = true)
    (a4 : PySem.W.nsIn K mainGlobals "_law_shuffled" = some (some (.ref f4)))
    (l4 : K.lookup f4 = some ⟨oc4, od4, .func (PySem.W.fnOf "_law_shuffled" "_law_shuffled" (defArgs s__law_shuffled) (defBody s__law_shuffled) (defScope s__law_shuffled) .none kV4 dc4 pm4 an4 cd4 ct4), sl4⟩)
    (c4 : PySem.W.codeIn K cd4 "_law_shuffled" = true)
    (k4 : PySem.W.keepIn K (.ref f4) = true)
    (a5 : PySem.W.nsIn K mainGlobals "_law_all_words" = some (some (.ref f5)))
    (l5 : K.lookup f5 = some ⟨oc5, od5, .func (PySem.W.fnOf "_law_all_words" "_law_all_words" (defArgs s__law_all_words) (defBody s__law_all_words) (defScope s__law_all_words) .none kV5 dc5 pm5 an5 cd5 ct5), sl5⟩)
    (c5 : PySem.W.codeIn K cd5 "_law_all_words" = true)
    (k5 : PySem.W.keepIn K (.ref f5) = true)
    (a6 : PySem.W.nsIn K mainGlobals "_law_near" = some (some (.ref f6)))
    (l6 : K.lookup f6 = some ⟨oc6, od6, .func (PySem.W.fnOf "_law_near" "_law_near" (defArgs s__law_near) (defBody s__law_near) (defScope s__law_near) .none kV6 dc6 pm6 an6 cd6 ct6), sl6⟩)
    (c6 : PySem.W.codeIn K cd6 "_law_near" = true)
    (k6 : PySem.W.keepIn K (.ref f6) = true)
    (a7 : PySem.W.nsIn K mainGlobals "_law_odd" = some (some (.ref f7)))
    (l7 : K.lookup f7 = some ⟨oc7, od7, .func (PySem.W.fnOf "_law_odd" "_law_odd" (defArgs s__law_odd) (defBody s__law_odd) (defScope s__law_odd) .none kV7 dc7 pm7 an7 cd7 ct7), sl7⟩)
    (c7 : PySem.W.codeIn K cd7 "_law_odd" = true)
    (k7 : PySem.W.keepIn K (.ref f7) = true)
    (a8 : PySem.W.nsIn K mainGlobals "need_word" = some (some (.ref f8)))
    (l8 : K.lookup f8 = some ⟨oc8, od8, .func (PySem.W.fnOf "need_word" "need_word" (defArgs s_need_word) (defBody s_need_word) (defScope s_need_word) .none kV8 dc8 pm8 an8 cd8 ct8), sl8⟩)
    (c8 : PySem.W.codeIn K cd8 "need_word" = true)
    (k8 : PySem.W.keepIn K (.ref f8) = true)
    (a9 : PySem.W.nsIn K mainGlobals "need_words" = some (some (.ref f9)))
    (l9 : K.lookup f9 = some ⟨oc9, od9, .func (PySem.W.fnOf "need_words" "need_words" (defArgs s_need_words) (defBody s_need_words) (defScope s_need_words) .none kV9 dc9 pm9 an9 cd9 ct9), sl9⟩)
    (c9 : PySem.W.codeIn K cd9 "need_words" = true)
    (k9 : PySem.W.keepIn K (.ref f9) = true)
    (a10 : PySem.W.findIn K (.ref C0) "__init__" = some (some (.ref f10)))
    (fn10 : PySem.W.isFn K (.ref f10) = true)
    (mk10 : PySem.W.makesIn K C0 = true)
    (kc10 : PySem.W.keepIn K (.ref C0) = true)
    (l10 : K.lookup f10 = some ⟨oc10, od10, .func (PySem.W.fnOf "__init__" "Book.__init__" (defArgs s_Book_init) (defBody s_Book_init) (defScope s_Book_init) .none (.ref kd10) dc10 pm10 an10 cd10 ct10), sl10⟩)
    (c10 : PySem.W.codeIn K cd10 "Book.__init__" = true)
    (k10 : PySem.W.keepIn K (.ref f10) = true)
    (a11 : PySem.W.nsIn K mainGlobals "_law_made" = some (some (.ref f11)))
    (l11 : K.lookup f11 = some ⟨oc11, od11, .func (PySem.W.fnOf "_law_made" "_law_made" (defArgs s__law_made) (defBody s__law_made) (defScope s__law_made) .none kV11 dc11 pm11 an11 cd11 ct11), sl11⟩)
    (c11 : PySem.W.codeIn K cd11 "_law_made" = true)
    (k11 : PySem.W.keepIn K (.ref f11) = true)
    (a12 : PySem.W.nsIn K mainGlobals "_law_due" = some (some (.ref f12)))
    (l12 : K.lookup f12 = some ⟨oc12, od12, .func (PySem.W.fnOf "_law_due" "_law_due" (defArgs s__law_due) (defBody s__law_due) (defScope s__law_due) .none kV12 dc12 pm12 an12 cd12 ct12), sl12⟩)
    (c12 : PySem.W.codeIn K cd12 "_law_due" = true)
    (k12 : PySem.W.keepIn K (.ref f12) = true)
    (a13 : PySem.W.findIn K (.ref C0) "__eq__" = some (some (.ref f13)))
    (fn13 : PySem.W.isFn K (.ref f13) = true)
    (ne13 : PySem.W.findIn K (.ref C0) "__ne__" = some (some (.builtin "object.__ne__")))
    (l13 : K.lookup f13 = some ⟨oc13, od13, .func (PySem.W.fnOf "__eq__" "Book.__eq__" (defArgs s_Book_eq) (defBody s_Book_eq) (defScope s_Book_eq) .none kV13 dc13 pm13 an13 cd13 ct13), sl13⟩)
    (c13 : PySem.W.codeIn K cd13 "Book.__eq__" = true)
    (k13 : PySem.W.keepIn K (.ref f13) = true)
    (a14 : PySem.W.findIn K (.ref C0) "bars" = some (some (.ref p14)))
    (pa14 : PySem.W.specialIn K (.ref p14) "__get__" = some (some (.builtin "property.__get__")))
    (pb14 : PySem.W.takesIn K (.ref p14) = some true)
    (pc14 : PySem.W.recIn K p14 "property" = some (.ref f14 :: rs14))
    (l14 : K.lookup f14 = some ⟨oc14, od14, .func (PySem.W.fnOf "bars" "Book.bars" (defArgs s_Book_bars) (defBody s_Book_bars) (defScope s_Book_bars) .none kV14 dc14 pm14 an14 cd14 ct14), sl14⟩)
    (c14 : PySem.W.codeIn K cd14 "Book.bars" = true)
    (k14 : PySem.W.keepIn K (.ref f14) = true)
    (a15 : PySem.W.nsIn K mainGlobals "is_kind" = some (some (.ref f15)))
    (l15 : K.lookup f15 = some ⟨oc15, od15, .func (PySem.W.fnOf "is_kind" "is_kind" (defArgs s_is_kind) (defBody s_is_kind) (defScope s_is_kind) .none kV15 dc15 pm15 an15 cd15 ct15), sl15⟩)
    (c15 : PySem.W.codeIn K cd15 "is_kind" = true)
    (k15 : PySem.W.keepIn K (.ref f15) = true)
    (a16 : PySem.W.findIn K (.ref C0) "up" = some (some (.ref p16)))
    (pa16 : PySem.W.specialIn K (.ref p16) "__get__" = some (some (.builtin "property.__get__")))
    (pb16 : PySem.W.takesIn K (.ref p16) = some true)
    (pc16 : PySem.W.recIn K p16 "property" = some (.ref f16 :: rs16))
    (l16 : K.lookup f16 = some ⟨oc16, od16, .func (PySem.W.fnOf "up" "Book.up" (defArgs s_Book_up) (defBody s_Book_up) (defScope s_Book_up) .none kV16 dc16 pm16 an16 cd16 ct16), sl16⟩)
    (c16 : PySem.W.codeIn K cd16 "Book.up" = true)
    (k16 : PySem.W.keepIn K (.ref f16) = true)
    (a17 : PySem.W.findIn K (.ref C0) "down" = some (some (.ref p17)))
    (pa17 : PySem.W.specialIn K (.ref p17) "__get__" = some (some (.builtin "property.__get__")))
    (pb17 : PySem.W.takesIn K (.ref p17) = some true)
    (pc17 : PySem.W.recIn K p17 "property" = some (.ref f17 :: rs17))
    (l17 : K.lookup f17 = some ⟨oc17, od17, .func (PySem.W.fnOf "down" "Book.down" (defArgs s_Book_down) (defBody s_Book_down) (defScope s_Book_down) .none kV17 dc17 pm17 an17 cd17 ct17), sl17⟩)
    (c17 : PySem.W.codeIn K cd17 "Book.down" = true)
    (k17 : PySem.W.keepIn K (.ref f17) = true)
    (a18 : PySem.W.findIn K (.ref C0) "writes" = some (some (.ref p18)))
    (pa18 : PySem.W.specialIn K (.ref p18) "__get__" = some (some (.builtin "property.__get__")))
    (pb18 : PySem.W.takesIn K (.ref p18) = some true)
    (pc18 : PySem.W.recIn K p18 "property" = some (.ref f18 :: rs18))
    (l18 : K.lookup f18 = some ⟨oc18, od18, .func (PySem.W.fnOf "writes" "Book.writes" (defArgs s_Book_writes) (defBody s_Book_writes) (defScope s_Book_writes) .none kV18 dc18 pm18 an18 cd18 ct18), sl18⟩)
    (c18 : PySem.W.codeIn K cd18 "Book.writes" = true)
    (k18 : PySem.W.keepIn K (.ref f18) = true)
    (a19 : PySem.W.findIn K (.ref C0) "moves" = some (some (.ref p19)))
    (pa19 : PySem.W.specialIn K (.ref p19) "__get__" = some (some (.builtin "property.__get__")))
    (pb19 : PySem.W.takesIn K (.ref p19) = some true)
    (pc19 : PySem.W.recIn K p19 "property" = some (.ref f19 :: rs19))
    (l19 : K.lookup f19 = some ⟨oc19, od19, .func (PySem.W.fnOf "moves" "Book.moves" (defArgs s_Book_moves) (defBody s_Book_moves) (defScope s_Book_moves) .none kV19 dc19 pm19 an19 cd19 ct19), sl19⟩)
    (c19 : PySem.W.codeIn K cd19 "Book.moves" = true)
    (k19 : PySem.W.keepIn K (.ref f19) = true)
    (a20 : PySem.W.findIn K (.ref C0) "finish" = some (some (.ref p20)))
    (pa20 : PySem.W.specialIn K (.ref p20) "__get__" = some (some (.builtin "property.__get__")))
    (pb20 : PySem.W.takesIn K (.ref p20) = some true)
    (pc20 : PySem.W.recIn K p20 "property" = some (.ref f20 :: rs20))
    (l20 : K.lookup f20 = some ⟨oc20, od20, .func (PySem.W.fnOf "finish" "Book.finish" (defArgs s_Book_finish) (defBody s_Book_finish) (defScope s_Book_finish) .none kV20 dc20 pm20 an20 cd20 ct20), sl20⟩)
    (c20 : PySem.W.codeIn K cd20 "Book.finish" = true)
    (k20 : PySem.W.keepIn K (.ref f20) = true)
    (a21 : PySem.W.findIn K (.ref C0) "counts" = some (some (.ref p21)))
    (pa21 : PySem.W.specialIn K (.ref p21) "__get__" = some (some (.builtin "property.__get__")))
    (pb21 : PySem.W.takesIn K (.ref p21) = some true)
    (pc21 : PySem.W.recIn K p21 "property" = some (.ref f21 :: rs21))
    (l21 : K.lookup f21 = some ⟨oc21, od21, .func (PySem.W.fnOf "counts" "Book.counts" (defArgs s_Book_counts) (defBody s_Book_counts) (defScope s_Book_counts) .none kV21 dc21 pm21 an21 cd21 ct21), sl21⟩)
    (c21 : PySem.W.codeIn K cd21 "Book.counts" = true)
    (k21 : PySem.W.keepIn K (.ref f21) = true)
    (a22 : PySem.W.findIn K (.ref C0) "notes" = some (some (.ref p22)))
    (pa22 : PySem.W.specialIn K (.ref p22) "__get__" = some (some (.builtin "property.__get__")))
    (pb22 : PySem.W.takesIn K (.ref p22) = some true)
    (pc22 : PySem.W.recIn K p22 "property" = some (.ref f22 :: rs22))
    (l22 : K.lookup f22 = some ⟨oc22, od22, .func (PySem.W.fnOf "notes" "Book.notes" (defArgs s_Book_notes) (defBody s_Book_notes) (defScope s_Book_notes) .none kV22 dc22 pm22 an22 cd22 ct22), sl22⟩)
    (c22 : PySem.W.codeIn K cd22 "Book.notes" = true)
    (k22 : PySem.W.keepIn K (.ref f22) = true)
    (a23 : PySem.W.nsIn K mainGlobals "_law_all_fields" = some (some (.ref f23)))
    (l23 : K.lookup f23 = some ⟨oc23, od23, .func (PySem.W.fnOf "_law_all_fields" "_law_all_fields" (defArgs s__law_all_fields) (defBody s__law_all_fields) (defScope s__law_all_fields) .none kV23 dc23 pm23 an23 cd23 ct23), sl23⟩)
    (c23 : PySem.W.codeIn K cd23 "_law_all_fields" = true)
    (k23 : PySem.W.keepIn K (.ref f23) = true)
    (a24 : PySem.W.nsIn K mainGlobals "law" = some (some (.ref f24)))
    (l24 : K.lookup f24 = some ⟨oc24, od24, .func (PySem.W.fnOf "law" "law" (defArgs s_law) (defBody s_law) (defScope s_law) .none kV24 dc24 pm24 an24 cd24 ct24), sl24⟩)
    (c24 : PySem.W.codeIn K cd24 "law" = true)
    (k24 : PySem.W.keepIn K (.ref f24) = true)
    (d10_up : PySem.W.nsIn K kd10 "up" = some (some (.str "one" td10_up)))
    (d10_down : PySem.W.nsIn K kd10 "down" = some (some (.str "one" td10_down)))
    (d10_writes : PySem.W.nsIn K kd10 "writes" = some (some (.str "plain" td10_writes)))
    (d10_moves : PySem.W.nsIn K kd10 "moves" = some (some (.str "now" td10_moves)))
    (d10_finish : PySem.W.nsIn K kd10 "finish" = some (some (.str "one" td10_finish)))
    (d10_bars : PySem.W.nsIn K kd10 "bars" = some (some (.ref pd10_bars)))
    (e10_bars : K.lookup pd10_bars = some ⟨.type "tuple", dd10_bars, .seq [].toArray nd10_bars, sd10_bars⟩)
    (d10_counts : PySem.W.nsIn K kd10 "counts" = some (some (.str "last" td10_counts)))
    (d10_notes : PySem.W.nsIn K kd10 "notes" = some (some (.ref pd10_notes)))
    (e10_notes : K.lookup pd10_notes = some ⟨.type "tuple", dd10_notes, .seq [].toArray nd10_notes, sd10_notes⟩)
    (g_UPS : PySem.W.nsIn K mainGlobals "UPS" = some (some (.ref p_UPS)))
    (h_UPS : K.lookup p_UPS = some ⟨.type "tuple", dd_UPS, .seq [.str "one" t_UPS0, .str "late" t_UPS1, .str "blind" t_UPS2].toArray n_UPS, sl_UPS⟩)
    (g_DOWNS : PySem.W.nsIn K mainGlobals "DOWNS" = some (some (.ref p_DOWNS)))
    (h_DOWNS : K.lookup p_DOWNS = some ⟨.type "tuple", dd_DOWNS, .seq [.str "one" t_DOWNS0, .str "two" t_DOWNS1].toArray n_DOWNS, sl_DOWNS⟩)
    (g_WRITES : PySem.W.nsIn K mainGlobals "WRITES" = some (some (.ref p_WRITES)))
    (h_WRITES : K.lookup p_WRITES = some ⟨.type "tuple", dd_WRITES, .seq [.str "plain" t_WRITES0, .str "both" t_WRITES1, .str "again" t_WRITES2, .str "behind" t_WRITES3, .str "refused" t_WRITES4].toArray n_WRITES, sl_WRITES⟩)
    (g_MOVES : PySem.W.nsIn K mainGlobals "MOVES" = some (some (.ref p_MOVES)))
    (h_MOVES : K.lookup p_MOVES = some ⟨.type "tuple", dd_MOVES, .seq [.str "now" t_MOVES0, .str "first" t_MOVES1].toArray n_MOVES, sl_MOVES⟩)
    (g_FINISHES : PySem.W.nsIn K mainGlobals "FINISHES" = some (some (.ref p_FINISHES)))
    (h_FINISHES : K.lookup p_FINISHES = some ⟨.type "tuple", dd_FINISHES, .seq [.str "one" t_FINISHES0, .str "link" t_FINISHES1, .str "cut" t_FINISHES2].toArray n_FINISHES, sl_FINISHES⟩)
    (g_COUNTS : PySem.W.nsIn K mainGlobals "COUNTS" = some (some (.ref p_COUNTS)))
    (h_COUNTS : K.lookup p_COUNTS = some ⟨.type "tuple", dd_COUNTS, .seq [.str "last" t_COUNTS0, .str "first" t_COUNTS1, .str "never" t_COUNTS2].toArray n_COUNTS, sl_COUNTS⟩)
    (g_BARS : PySem.W.nsIn K mainGlobals "BARS" = some (some (.ref p_BARS)))
    (h_BARS : K.lookup p_BARS = some ⟨.type "tuple", dd_BARS, .seq [.str "cover" t_BARS0, .str "lower" t_BARS1, .str "open" t_BARS2, .str "others" t_BARS3, .str "upper" t_BARS4].toArray n_BARS, sl_BARS⟩)
    (g_NOTES : PySem.W.nsIn K mainGlobals "NOTES" = some (some (.ref p_NOTES)))
    (h_NOTES : K.lookup p_NOTES = some ⟨.type "tuple", dd_NOTES, .seq [.str "again" t_NOTES0, .str "job" t_NOTES1, .str "place" t_NOTES2].toArray n_NOTES, sl_NOTES⟩)
    (g_KINDS : PySem.W.nsIn K mainGlobals "KINDS" = some (some (.ref p_KINDS)))
    (h_KINDS : K.lookup p_KINDS = some ⟨.type "tuple", dd_KINDS, .seq [.str "down" t_KINDS0, .str "up" t_KINDS1].toArray n_KINDS, sl_KINDS⟩)
    (z_abs : PySem.W.nsIn K mainGlobals "abs" = some none)
    (z_int : PySem.W.nsIn K mainGlobals "int" = some none)
    (z_len : PySem.W.nsIn K mainGlobals "len" = some none)
    (z_list : PySem.W.nsIn K mainGlobals "list" = some none)
    (z_dict : PySem.W.nsIn K mainGlobals "dict" = some none)
    (z_isinstance : PySem.W.nsIn K mainGlobals "isinstance" = some none)
    (z_str : PySem.W.nsIn K mainGlobals "str" = some none)
    (z_tuple : PySem.W.nsIn K mainGlobals "tuple" = some none)
    (z_set : PySem.W.nsIn K mainGlobals "set" = some none)
    (z_sorted : PySem.W.nsIn K mainGlobals "sorted" = some none)
    (z_range : PySem.W.nsIn K mainGlobals "range" = some none)
    (z_min : PySem.W.nsIn K mainGlobals "min" = some none)
    (z_repr : PySem.W.nsIn K mainGlobals "repr" = some none)
    (bc0 : clsB K C0 = true)
    (bf0 : noB K C0 ["b_words", "b_bars", "b_notes"] = true)
    (bk : ktChk K (fun n => [C0].getD n 0) [[.o 0]] tys = true)
    (nb13 : nfB K (fun n => [C0].getD n 0) 0 [.b "NoneType", .b "bool", .b "int", .b "str", .b "list", .b "tuple", .b "dict", .o 0] = true)
    : ∃ (fd : FuncData) (CA : Nat → Addr), (∀ (s : Shared) (v : Value), BindsTo s fd ⟨[v], []⟩ [("_law_script", v)]) ∧ ∀ base : Heap, K.In base → base.Ns mainGlobals mg → FnG l.prog w K mg base true 6 fa fd ["_law_script"] (spD K CA 1 F_law) := by
  have e := hfa.symm.trans (PySem.W.mg_of X G a24)
  cases e
  have T : Txt mg := ⟨PySem.W.mg_none_of X G z_abs, PySem.W.mg_none_of X G z_int, PySem.W.mg_none_of X G z_len, PySem.W.mg_none_of X G z_list, PySem.W.mg_none_of X G z_dict, PySem.W.mg_none_of X G z_isinstance, PySem.W.mg_none_of X G z_str, PySem.W.mg_none_of X G z_tuple, PySem.W.mg_none_of X G z_set, PySem.W.mg_none_of X G z_sorted, PySem.W.mg_none_of X G z_range, PySem.W.mg_none_of X G z_min, PySem.W.mg_none_of X G z_repr⟩
  let CA : Nat → Addr := (fun n => [C0].getD n 0)
  have K0 : ClsOk K (CA 0) := clsB_ok bc0
  have C : Cst K CA mg := ⟨gv_wr (PySem.W.mg_of X G g_UPS) (.tup h_UPS (.cons (.str "one" _) (.cons (.str "late" _) (.cons (.str "blind" _) (.nil)))) (show 3 ≤ sizeLine by decide)), gv_wr (PySem.W.mg_of X G g_DOWNS) (.tup h_DOWNS (.cons (.str "one" _) (.cons (.str "two" _) (.nil))) (show 2 ≤ sizeLine by decide)), gv_wr (PySem.W.mg_of X G g_WRITES) (.tup h_WRITES (.cons (.str "plain" _) (.cons (.str "both" _) (.cons (.str "again" _) (.cons (.str "behind" _) (.cons (.str "refused" _) (.nil)))))) (show 5 ≤ sizeLine by decide)), gv_wr (PySem.W.mg_of X G g_MOVES) (.tup h_MOVES (.cons (.str "now" _) (.cons (.str "first" _) (.nil))) (show 2 ≤ sizeLine by decide)), gv_wr (PySem.W.mg_of X G g_FINISHES) (.tup h_FINISHES (.cons (.str "one" _) (.cons (.str "link" _) (.cons (.str "cut" _) (.nil)))) (show 3 ≤ sizeLine by decide)), gv_wr (PySem.W.mg_of X G g_COUNTS) (.tup h_COUNTS (.cons (.str "last" _) (.cons (.str "first" _) (.cons (.str "never" _) (.nil)))) (show 3 ≤ sizeLine by decide)), gv_wr (PySem.W.mg_of X G g_BARS) (.tup h_BARS (.cons (.str "cover" _) (.cons (.str "lower" _) (.cons (.str "open" _) (.cons (.str "others" _) (.cons (.str "upper" _) (.nil)))))) (show 5 ≤ sizeLine by decide)), gv_wr (PySem.W.mg_of X G g_NOTES) (.tup h_NOTES (.cons (.str "again" _) (.cons (.str "job" _) (.cons (.str "place" _) (.nil)))) (show 3 ≤ sizeLine by decide)), gv_wr (PySem.W.mg_of X G g_KINDS) (.tup h_KINDS (.cons (.str "down" _) (.cons (.str "up" _) (.nil))) (show 2 ≤ sizeLine by decide)), gv_cls (PySem.W.mg_of X G ac0) rfl⟩
  have Fl : Fld K CA := ⟨FldOf.one K0.cl (noB_ok bf0 (by decide)), FldOf.one K0.cl (noB_ok bf0 (by decide)), FldOf.one K0.cl (noB_ok bf0 (by decide))⟩
  have Kt : KtOk K CA [0] (ktT [[.o 0]] tys) := ktT_ok bk (fun c hc => by
    simp only [List.mem_cons, List.not_mem_nil, or_false] at hc
    subst hc
    all_goals first | exact K0)
  refine ⟨PySem.W.fnOf "law" "law" (defArgs s_law) (defBody s_law) (defScope s_law) .none kV24 dc24 pm24 an24 cd24 ct24, CA, fun s v => .of_eq rfl, fun base _ _ => ?_⟩
  have F0 := fun_mk (st := s__law_begun) l0 c0 k0
  have D__law_begun : Df l.prog w K mg base CA "_law_begun" true 1 ["_law_script"] F__law_begun _ _ := Df.of F0 (ok__law_begun F0 T C Fl Kt ) (PySem.W.mg_of X G a0)
  have F1 := fun_mk (st := s__law_mixed) l1 c1 k1
  have D__law_mixed : Df l.prog w K mg base CA "_law_mixed" true 1 ["_law_draw"] F__law_mixed _ _ := Df.of F1 (ok__law_mixed F1 T C Fl Kt ) (PySem.W.mg_of X G a1)
  have B__law_mixed_1 : KwB K CA _ ["_law_draw"] 1 [] (srcP 0 1) := KwB.fn F1 rfl (fun _ _ _ _ _ _ us ws h1 h2 => match us, ws, h1, h2 with | [_], [], _, _ => rfl)
  have F2 := fun_mk (st := s__law_take) l2 c2 k2
  have D__law_take : Df l.prog w K mg base CA "_law_take" true 2 ["_law_draw", "_law_size"] F__law_take _ _ := Df.of F2 (ok__law_take F2 T C Fl Kt B__law_mixed_1 D__law_mixed) (PySem.W.mg_of X G a2)
  have B__law_take_2 : KwB K CA _ ["_law_draw", "_law_size"] 2 [] (srcP 0 2) := KwB.fn F2 rfl (fun _ _ _ _ _ _ us ws h1 h2 => match us, ws, h1, h2 with | [_, _], [], _, _ => rfl)
  have F3 := fun_mk (st := s__law_pick) l3 c3 k3
  have D__law_pick : Df l.prog w K mg base CA "_law_pick" true 3 ["_law_draw", "_law_some"] F__law_pick _ _ := Df.of F3 (ok__law_pick F3 T C Fl Kt B__law_take_2 D__law_take) (PySem.W.mg_of X G a3)
  have F4 := fun_mk (st := s__law_shuffled) l4 c4 k4
  have D__law_shuffled : Df l.prog w K mg base CA "_law_shuffled" true 3 ["_law_draw", "_law_some"] F__law_shuffled _ _ := Df.of F4 (ok__law_shuffled F4 T C Fl Kt B__law_take_2 D__law_take) (PySem.W.mg_of X G a4)
  have B__law_pick_2 : KwB K CA _ ["_law_draw", "_law_some"] 2 [] (srcP 0 2) := KwB.fn F3 rfl (fun _ _ _ _ _ _ us ws h1 h2 => match us, ws, h1, h2 with | [_, _], [], _, _ => rfl)
  have B__law_shuffled_2 : KwB K CA _ ["_law_draw", "_law_some"] 2 [] (srcP 0 2) := KwB.fn F4 rfl (fun _ _ _ _ _ _ us ws h1 h2 => match us, ws, h1, h2 with | [_, _], [], _, _ => rfl)
  have F5 := fun_mk (st := s__law_all_words) l5 c5 k5
  have D__law_all_words : Df l.prog w K mg base CA "_law_all_words" true 4 ["_law_draw"] F__law_all_words _ _ := Df.of F5 (ok__law_all_words F5 T C Fl Kt B__law_pick_2 D__law_pick B__law_shuffled_2 D__law_shuffled B__law_take_2 D__law_take) (PySem.W.mg_of X G a5)
  have B__law_all_words_1 : KwB K CA _ ["_law_draw"] 1 [] (srcP 0 1) := KwB.fn F5 rfl (fun _ _ _ _ _ _ us ws h1 h2 => match us, ws, h1, h2 with | [_], [], _, _ => rfl)
  have F6 := fun_mk (st := s__law_near) l6 c6 k6
  have D__law_near : Df l.prog w K mg base CA "_law_near" true 5 ["_law_draw", "_law_told"] F__law_near _ _ := Df.of F6 (ok__law_near F6 T C Fl Kt B__law_all_words_1 D__law_all_words B__law_pick_2 D__law_pick) (PySem.W.mg_of X G a6)
  have F7 := fun_mk (st := s__law_odd) l7 c7 k7
  have D__law_odd : Df l.prog w K mg base CA "_law_odd" true 4 ["_law_draw"] F__law_odd _ _ := Df.of F7 (ok__law_odd F7 T C Fl Kt B__law_pick_2 D__law_pick) (PySem.W.mg_of X G a7)
  have F8 := fun_mk (st := s_need_word) l8 c8 k8
  have D_need_word : Df l.prog w K mg base CA "need_word" false 1 ["field", "word", "words"] F_need_word _ _ := Df.of F8 (ok_need_word F8 T C Fl Kt ) (PySem.W.mg_of X G a8)
  have B_need_word_3 : KwB K CA _ ["field", "word", "words"] 3 [] (srcP 0 3) := KwB.fn F8 rfl (fun _ _ _ _ _ _ us ws h1 h2 => match us, ws, h1, h2 with | [_, _, _], [], _, _ => rfl)
  have F9 := fun_mk (st := s_need_words) l9 c9 k9
  have D_need_words : Df l.prog w K mg base CA "need_words" false 2 ["field", "some", "words"] F_need_words _ _ := Df.of F9 (ok_need_words F9 T C Fl Kt B_need_word_3 D_need_word) (PySem.W.mg_of X G a9)
  have B_need_words_3 : KwB K CA _ ["field", "some", "words"] 3 [] (srcP 0 3) := KwB.fn F9 rfl (fun _ _ _ _ _ _ us ws h1 h2 => match us, ws, h1, h2 with | [_, _, _], [], _, _ => rfl)
  have F10 := fun_mk (st := s_Book_init) l10 c10 k10
  have N_Book : Mkd l.prog w K mg base CA 0 "Book" 3 ["self", "up", "down", "writes", "moves", "finish", "counts", "bars", "notes"] F_Book_init _ _ := Mkd.of F10 (ok_Book_init F10 T C Fl Kt B_need_word_3 D_need_word B_need_words_3 D_need_words) (PySem.W.mg_of X G ac0) a10 fn10 mk10 kc10
  have B_Book_init_1_notes_bars_counts_finish_moves_writes_down_up : KwB K CA _ ["self", "up", "down", "writes", "moves", "finish", "counts", "bars", "notes"] 1 ["notes", "bars", "counts", "finish", "moves", "writes", "down", "up"] ([.p 0, .k 7, .k 6, .k 5, .k 4, .k 3, .k 2, .k 1, .k 0]) := KwB.fn F10 rfl (fun _ _ _ _ _ _ us ws h1 h2 => match us, ws, h1, h2 with | [_], [_, _, _, _, _, _, _, _], _, _ => rfl)
  have F11 := fun_mk (st := s__law_made) l11 c11 k11
  have D__law_made : Df l.prog w K mg base CA "_law_made" true 5 ["_law_told"] F__law_made _ _ := Df.of F11 (ok__law_made F11 T C Fl Kt B_Book_init_1_notes_bars_counts_finish_moves_writes_down_up N_Book) (PySem.W.mg_of X G a11)
  have F12 := fun_mk (st := s__law_due) l12 c12 k12
  have D__law_due : Df l.prog w K mg base CA "_law_due" true 1 ["_law_told"] F__law_due _ _ := Df.of F12 (ok__law_due F12 T C Fl Kt ) (PySem.W.mg_of X G a12)
  have F13 := fun_mk (st := s_Book_eq) l13 c13 k13
  have O_Book : OwnE l.prog w K mg base CA 0 (fun t => decide (t ∈ [.b "NoneType", .b "bool", .b "int", .b "str", .b "list", .b "tuple", .b "dict", .o 0])) 1 ["self", "other"] F_Book_eq _ _ := OwnE.of F13 (ok_Book_eq F13 T C Fl Kt ) rfl K0 a13 fn13 ne13 nb13 (fun _ _ _ _ _ _ us hl => match us, hl with | [_, _], _ => rfl)
  have F14 := fun_mk (st := s_Book_bars) l14 c14 k14
  have P_Book_bars : Prd l.prog w K mg base CA 0 "bars" 1 ["self"] F_Book_bars := Prd.of F14 (ok_Book_bars F14 T C Fl Kt ) K0 a14 pa14 pb14 pc14 (fun _ _ _ _ _ _ us hl => match us, hl with | [_], _ => rfl)
  have F15 := fun_mk (st := s_is_kind) l15 c15 k15
  have D_is_kind : Df l.prog w K mg base CA "is_kind" false 1 ["thing"] F_is_kind _ _ := Df.of F15 (ok_is_kind F15 T C Fl Kt ) (PySem.W.mg_of X G a15)
  have F16 := fun_mk (st := s_Book_up) l16 c16 k16
  have P_Book_up : Prd l.prog w K mg base CA 0 "up" 1 ["self"] F_Book_up := Prd.of F16 (ok_Book_up F16 T C Fl Kt ) K0 a16 pa16 pb16 pc16 (fun _ _ _ _ _ _ us hl => match us, hl with | [_], _ => rfl)
  have F17 := fun_mk (st := s_Book_down) l17 c17 k17
  have P_Book_down : Prd l.prog w K mg base CA 0 "down" 1 ["self"] F_Book_down := Prd.of F17 (ok_Book_down F17 T C Fl Kt ) K0 a17 pa17 pb17 pc17 (fun _ _ _ _ _ _ us hl => match us, hl with | [_], _ => rfl)
  have F18 := fun_mk (st := s_Book_writes) l18 c18 k18
  have P_Book_writes : Prd l.prog w K mg base CA 0 "writes" 1 ["self"] F_Book_writes := Prd.of F18 (ok_Book_writes F18 T C Fl Kt ) K0 a18 pa18 pb18 pc18 (fun _ _ _ _ _ _ us hl => match us, hl with | [_], _ => rfl)
  have F19 := fun_mk (st := s_Book_moves) l19 c19 k19
  have P_Book_moves : Prd l.prog w K mg base CA 0 "moves" 1 ["self"] F_Book_moves := Prd.of F19 (ok_Book_moves F19 T C Fl Kt ) K0 a19 pa19 pb19 pc19 (fun _ _ _ _ _ _ us hl => match us, hl with | [_], _ => rfl)
  have F20 := fun_mk (st := s_Book_finish) l20 c20 k20
  have P_Book_finish : Prd l.prog w K mg base CA 0 "finish" 1 ["self"] F_Book_finish := Prd.of F20 (ok_Book_finish F20 T C Fl Kt ) K0 a20 pa20 pb20 pc20 (fun _ _ _ _ _ _ us hl => match us, hl with | [_], _ => rfl)
  have F21 := fun_mk (st := s_Book_counts) l21 c21 k21
  have P_Book_counts : Prd l.prog w K mg base CA 0 "counts" 1 ["self"] F_Book_counts := Prd.of F21 (ok_Book_counts F21 T C Fl Kt ) K0 a21 pa21 pb21 pc21 (fun _ _ _ _ _ _ us hl => match us, hl with | [_], _ => rfl)
  have F22 := fun_mk (st := s_Book_notes) l22 c22 k22
  have P_Book_notes : Prd l.prog w K mg base CA 0 "notes" 1 ["self"] F_Book_notes := Prd.of F22 (ok_Book_notes F22 T C Fl Kt ) K0 a22 pa22 pb22 pc22 (fun _ _ _ _ _ _ us hl => match us, hl with | [_], _ => rfl)
  have F23 := fun_mk (st := s__law_all_fields) l23 c23 k23
  have D__law_all_fields : Df l.prog w K mg base CA "_law_all_fields" true 3 ["_law_made_here"] F__law_all_fields _ _ := Df.of F23 (ok__law_all_fields F23 T C Fl Kt P_Book_notes P_Book_bars P_Book_counts P_Book_finish P_Book_moves P_Book_writes P_Book_down P_Book_up) (PySem.W.mg_of X G a23)
  have B__law_begun_1 : KwB K CA _ ["_law_script"] 1 [] (srcP 0 1) := KwB.fn F0 rfl (fun _ _ _ _ _ _ us ws h1 h2 => match us, ws, h1, h2 with | [_], [], _, _ => rfl)
  have B__law_made_1 : KwB K CA _ ["_law_told"] 1 [] (srcP 0 1) := KwB.fn F11 rfl (fun _ _ _ _ _ _ us ws h1 h2 => match us, ws, h1, h2 with | [_], [], _, _ => rfl)
  have B__law_due_1 : KwB K CA _ ["_law_told"] 1 [] (srcP 0 1) := KwB.fn F12 rfl (fun _ _ _ _ _ _ us ws h1 h2 => match us, ws, h1, h2 with | [_], [], _, _ => rfl)
  have B__law_all_fields_1 : KwB K CA _ ["_law_made_here"] 1 [] (srcP 0 1) := KwB.fn F23 rfl (fun _ _ _ _ _ _ us ws h1 h2 => match us, ws, h1, h2 with | [_], [], _, _ => rfl)
  have B__law_near_2 : KwB K CA _ ["_law_draw", "_law_told"] 2 [] (srcP 0 2) := KwB.fn F6 rfl (fun _ _ _ _ _ _ us ws h1 h2 => match us, ws, h1, h2 with | [_, _], [], _, _ => rfl)
  have B_Book_init_1_counts_notes : KwB K CA _ ["self", "up", "down", "writes", "moves", "finish", "counts", "bars", "notes"] 1 ["counts", "notes"] ([.p 0, .c (.str "one"), .c (.str "one"), .c (.str "plain"), .c (.str "now"), .c (.str "one"), .k 0, .c (.tup []), .k 1]) := KwB.kw (fd := PySem.W.fnOf "__init__" "Book.__init__" (defArgs s_Book_init) (defBody s_Book_init) (defScope s_Book_init) .none (.ref kd10) dc10 pm10 an10 cd10 ct10) (D := kd10) ["up", "down", "writes", "moves", "finish", "bars"] [.str "one" td10_up, .str "one" td10_down, .str "plain" td10_writes, .str "now" td10_moves, .str "one" td10_finish, .ref pd10_bars] (fun q hq => by
    simp only [List.zip_cons_cons, List.zip_nil_left, List.mem_cons, List.not_mem_nil, or_false] at hq
    rcases hq with rfl | rfl | rfl | rfl | rfl | rfl
    · exact d10_up
    · exact d10_down
    · exact d10_writes
    · exact d10_moves
    · exact d10_finish
    · exact d10_bars
    ) (.cons (WrV.rel (.str _ _)) (.cons (WrV.rel (.str _ _)) (.cons (WrV.rel (.str _ _)) (.cons (WrV.rel (.str _ _)) (.cons (WrV.rel (.str _ _)) (.cons (WrV.rel (.tup e10_bars .nil (by decide))) (.nil))))))) (fun us ws h1 h2 => match us, ws, h1, h2 with | [_], [_, _], _, _ => ⟨_, _, _, _, _, _, rfl, rfl, ⟨_, _, _, _, _, _, rfl, rfl, ⟨_, _, _, _, _, _, rfl, rfl, ⟨_, _, _, _, _, _, rfl, rfl, ⟨_, _, _, _, _, _, rfl, rfl, ⟨_, _, _, _, _, _, rfl, rfl, rfl⟩⟩⟩⟩⟩⟩)
  have B_Book_init_1_bars : KwB K CA _ ["self", "up", "down", "writes", "moves", "finish", "counts", "bars", "notes"] 1 ["bars"] ([.p 0, .c (.str "one"), .c (.str "one"), .c (.str "plain"), .c (.str "now"), .c (.str "one"), .c (.str "last"), .k 0, .c (.tup [])]) := KwB.kw (fd := PySem.W.fnOf "__init__" "Book.__init__" (defArgs s_Book_init) (defBody s_Book_init) (defScope s_Book_init) .none (.ref kd10) dc10 pm10 an10 cd10 ct10) (D := kd10) ["up", "down", "writes", "moves", "finish", "counts", "notes"] [.str "one" td10_up, .str "one" td10_down, .str "plain" td10_writes, .str "now" td10_moves, .str "one" td10_finish, .str "last" td10_counts, .ref pd10_notes] (fun q hq => by
    simp only [List.zip_cons_cons, List.zip_nil_left, List.mem_cons, List.not_mem_nil, or_false] at hq
    rcases hq with rfl | rfl | rfl | rfl | rfl | rfl | rfl
    · exact d10_up
    · exact d10_down
    · exact d10_writes
    · exact d10_moves
    · exact d10_finish
    · exact d10_counts
    · exact d10_notes
    ) (.cons (WrV.rel (.str _ _)) (.cons (WrV.rel (.str _ _)) (.cons (WrV.rel (.str _ _)) (.cons (WrV.rel (.str _ _)) (.cons (WrV.rel (.str _ _)) (.cons (WrV.rel (.str _ _)) (.cons (WrV.rel (.tup e10_notes .nil (by decide))) (.nil)))))))) (fun us ws h1 h2 => match us, ws, h1, h2 with | [_], [_], _, _ => ⟨_, _, _, _, _, _, rfl, rfl, ⟨_, _, _, _, _, _, rfl, rfl, ⟨_, _, _, _, _, _, rfl, rfl, ⟨_, _, _, _, _, _, rfl, rfl, ⟨_, _, _, _, _, _, rfl, rfl, ⟨_, _, _, _, _, _, rfl, rfl, ⟨_, _, _, _, _, _, rfl, rfl, rfl⟩⟩⟩⟩⟩⟩⟩)
  have B_Book_init_1_up : KwB K CA _ ["self", "up", "down", "writes", "moves", "finish", "counts", "bars", "notes"] 1 ["up"] ([.p 0, .k 0, .c (.str "one"), .c (.str "plain"), .c (.str "now"), .c (.str "one"), .c (.str "last"), .c (.tup []), .c (.tup [])]) := KwB.kw (fd := PySem.W.fnOf "__init__" "Book.__init__" (defArgs s_Book_init) (defBody s_Book_init) (defScope s_Book_init) .none (.ref kd10) dc10 pm10 an10 cd10 ct10) (D := kd10) ["down", "writes", "moves", "finish", "counts", "bars", "notes"] [.str "one" td10_down, .str "plain" td10_writes, .str "now" td10_moves, .str "one" td10_finish, .str "last" td10_counts, .ref pd10_bars, .ref pd10_notes] (fun q hq => by
    simp only [List.zip_cons_cons, List.zip_nil_left, List.mem_cons, List.not_mem_nil, or_false] at hq
    rcases hq with rfl | rfl | rfl | rfl | rfl | rfl | rfl
    · exact d10_down
    · exact d10_writes
    · exact d10_moves
    · exact d10_finish
    · exact d10_counts
    · exact d10_bars
    · exact d10_notes
    ) (.cons (WrV.rel (.str _ _)) (.cons (WrV.rel (.str _ _)) (.cons (WrV.rel (.str _ _)) (.cons (WrV.rel (.str _ _)) (.cons (WrV.rel (.str _ _)) (.cons (WrV.rel (.tup e10_bars .nil (by decide))) (.cons (WrV.rel (.tup e10_notes .nil (by decide))) (.nil)))))))) (fun us ws h1 h2 => match us, ws, h1, h2 with | [_], [_], _, _ => ⟨_, _, _, _, _, _, rfl, rfl, ⟨_, _, _, _, _, _, rfl, rfl, ⟨_, _, _, _, _, _, rfl, rfl, ⟨_, _, _, _, _, _, rfl, rfl, ⟨_, _, _, _, _, _, rfl, rfl, ⟨_, _, _, _, _, _, rfl, rfl, ⟨_, _, _, _, _, _, rfl, rfl, rfl⟩⟩⟩⟩⟩⟩⟩)
  have B_Book_init_1 : KwB K CA _ ["self", "up", "down", "writes", "moves", "finish", "counts", "bars", "notes"] 1 [] ([.p 0, .c (.str "one"), .c (.str "one"), .c (.str "plain"), .c (.str "now"), .c (.str "one"), .c (.str "last"), .c (.tup []), .c (.tup [])]) := KwB.kw (fd := PySem.W.fnOf "__init__" "Book.__init__" (defArgs s_Book_init) (defBody s_Book_init) (defScope s_Book_init) .none (.ref kd10) dc10 pm10 an10 cd10 ct10) (D := kd10) ["up", "down", "writes", "moves", "finish", "counts", "bars", "notes"] [.str "one" td10_up, .str "one" td10_down, .str "plain" td10_writes, .str "now" td10_moves, .str "one" td10_finish, .str "last" td10_counts, .ref pd10_bars, .ref pd10_notes] (fun q hq => by
    simp only [List.zip_cons_cons, List.zip_nil_left, List.mem_cons, List.not_mem_nil, or_false] at hq
    rcases hq with rfl | rfl | rfl | rfl | rfl | rfl | rfl | rfl
    · exact d10_up
    · exact d10_down
    · exact d10_writes
    · exact d10_moves
    · exact d10_finish
    · exact d10_counts
    · exact d10_bars
    · exact d10_notes
    ) (.cons (WrV.rel (.str _ _)) (.cons (WrV.rel (.str _ _)) (.cons (WrV.rel (.str _ _)) (.cons (WrV.rel (.str _ _)) (.cons (WrV.rel (.str _ _)) (.cons (WrV.rel (.str _ _)) (.cons (WrV.rel (.tup e10_bars .nil (by decide))) (.cons (WrV.rel (.tup e10_notes .nil (by decide))) (.nil))))))))) (fun us ws h1 h2 => match us, ws, h1, h2 with | [_], [], _, _ => ⟨_, _, _, _, _, _, rfl, rfl, ⟨_, _, _, _, _, _, rfl, rfl, ⟨_, _, _, _, _, _, rfl, rfl, ⟨_, _, _, _, _, _, rfl, rfl, ⟨_, _, _, _, _, _, rfl, rfl, ⟨_, _, _, _, _, _, rfl, rfl, ⟨_, _, _, _, _, _, rfl, rfl, ⟨_, _, _, _, _, _, rfl, rfl, rfl⟩⟩⟩⟩⟩⟩⟩⟩)
  have B__law_odd_1 : KwB K CA _ ["_law_draw"] 1 [] (srcP 0 1) := KwB.fn F7 rfl (fun _ _ _ _ _ _ us ws h1 h2 => match us, ws, h1, h2 with | [_], [], _, _ => rfl)
  have B_is_kind_1 : KwB K CA _ ["thing"] 1 [] (srcP 0 1) := KwB.fn F15 rfl (fun _ _ _ _ _ _ us ws h1 h2 => match us, ws, h1, h2 with | [_], [], _, _ => rfl)
  have B_is_kind_0_thing : KwB K CA _ ["thing"] 0 ["thing"] ([.k 0]) := KwB.fn F15 rfl (fun _ _ _ _ _ _ us ws h1 h2 => match us, ws, h1, h2 with | [], [_], _, _ => rfl)
  have F24 := fun_mk (st := s_law) l24 c24 k24
  exact ok_law F24 T C Fl Kt B__law_begun_1 D__law_begun B__law_all_words_1 D__law_all_words B__law_made_1 D__law_made B__law_due_1 D__law_due B__law_all_fields_1 D__law_all_fields O_Book B__law_near_2 D__law_near P_Book_bars B_Book_init_1_counts_notes N_Book B_Book_init_1_bars B_Book_init_1_up B_Book_init_1 B__law_odd_1 D__law_odd B_is_kind_1 D_is_kind B_is_kind_0_thing
end
end W_whilemerged_k02_books_made
namespace W_whilemerged_k02_books_made
open PySem PySem.Spec PyProof.Rows L2 CM
theorem del_ne {h : CH} {k j : Nat} (n : j ≠ k) : (h.del k).ob j = h.ob j := by unfold CH.del; simp only [if_neg n]
theorem seqIx {v : Int} {n : Nat} (h0 : 0 ≤ v) (h1 : v < n) : seqIndex? v n = some v.toNat := by
  have e : ¬ v < 0 := by omega
  simp [seqIndex?, e]
  omega
theorem erase_st : ∀ (l : List Str) (i : Nat), (stL l).eraseIdx i = stL (l.eraseIdx i)
  | [], _ => rfl
  | x :: l, 0 => rfl
  | x :: l, i + 1 => by
    show D.str x :: (stL l).eraseIdx i = _
    rw [erase_st l i]
    rfl
theorem popAt_ok {h : CH} {k : Nat} {ds : List D} {v : Int} {j : Nat} {y : D} (e : h.ob k = some (.lst ds)) (l : -(2 ^ 63) ≤ v ∧ v < 2 ^ 63) (si : seqIndex? v ds.length = some j) (a : ds[j]? = some y) : fPopAt (.ref k) [.int v] h = .ok y (h.put k (.lst (ds.eraseIdx j))) := by
  unfold fPopAt
  simp only [e]
  rw [if_pos l]
  simp only [si, a]
theorem append_ok {h : CH} {k : Nat} {ds : List D} {y : D} (e : h.ob k = some (.lst ds)) (l : ds.length < sizeLine) : fAppend (.ref k) [y] h = .ok .non (h.put k (.lst (ds ++ [y]))) := by
  unfold fAppend
  simp only [e]
  rw [if_pos l]
theorem shuffled_sat {r w n : Nat} {h : CH} {ds : List Str} (A : DrawOk r w (n + ds.length) h) (hl : ds.length < 1000) (ok : Layd ds) :
    (F__law_shuffled [.ref r, .lst (stL ds)] h).sat fun d h1 => ∃ k zs, d = .ref k ∧ h1.ob k = some (.lst (stL zs)) ∧ zs.Perm ds ∧ h.nx ≤ k ∧ k < h1.nx ∧ DrawOk r w n h1 ∧ Fr [r, w] h h1 := by
  have lt := A.lt
  have ll : ds.length ≤ sizeLine := Nat.le_trans (Nat.le_of_lt hl) (by decide)
  unfold F__law_shuffled bodyF
  rw [sat_res]
  show (u__law_shuffled [some (.ref r), some (.lst (stL ds)), none, none] h).sat _ _
  unfold u__law_shuffled
  rw [s_seq, sat_bindS]
  simp [fListOf, seqOf, mkL]
  unfold Kont
  rw [s_seq, sat_bindS]
  refine sat_while (n := ds.length) (I := fun m ρ h' => ∃ ls fs : List Str, ρ = [some (.ref r), some (.lst (stL ds)), some (.ref h.nx), some (.ref (h.nx + 1))] ∧ h'.ob h.nx = some (.lst (stL ls)) ∧ h'.ob (h.nx + 1) = some (.lst (stL fs)) ∧ (ls ++ fs).Perm ds ∧ ls.length = m ∧ DrawOk r w (n + m) h' ∧ h'.nx = h.nx + 2 ∧ ∀ k, k < h.nx → k ≠ r → k ≠ w → h'.ob k = h.ob k) ?_ (by omega) ?_
  · rintro m ρ h' ⟨ls, fs, rfl, e1, e2, pm, lm, A', nx, fr⟩
    have okl : Layd ls := fun x hx => ok x (pm.mem_iff.mp (List.mem_append_left _ hx))
    simp [mkL, ne_nil_strs okl e1]
    cases ls with
    | nil =>
      simp
      simp only [List.nil_append] at pm
      simp [Kont]
      exact ⟨fs, e2, pm, by omega, by rw [← lm] at A'; exact A', by omega, fun k hk nk => fr k hk (fun z => nk (by simp [z])) (fun z => nk (by simp [z]))⟩
    | cons y ls =>
      simp
      refine ⟨ls.length, by simpa using lm.symm, ?_⟩
      have e1' : h'.ob h.nx = some (.lst (D.str y :: stL ls)) := e1
      have e2' : h'.ob (h.nx + 1) = some (.lst (stL fs)) := e2
      simp [isTy, lstOf, e1', e2', fLen, seqOf]
      have lm' : ls.length + 1 = m := lm
      have A2 : DrawOk r w (n + ls.length + 1) h' := by rw [← lm'] at A'; exact A'
      have lsz := pm.length_eq
      simp only [List.length_append, List.length_cons] at lsz
      refine (take_sat A2 (by omega) (by omega)).mono ?_
      rintro d h1 ⟨v, rfl, v0, v1, A3, f3⟩
      have a1 : h1.ob h.nx = some (.lst (stL (y :: ls))) := (f3.2 _ (by omega) (by omega)).trans e1
      have a2 : h1.ob (h.nx + 1) = some (.lst (stL fs)) := (f3.2 _ (by omega) (by omega)).trans e2
      have vn : v.toNat < (y :: ls).length := by simp only [List.length_cons]; omega
      have si : seqIndex? v (ls.length + 1) = some v.toNat := seqIx v0 (by omega)
      have at_ : (stL (y :: ls))[v.toNat]? = some (.str (y :: ls)[v.toNat]) := by
        rw [List.getElem?_map, List.getElem?_eq_getElem vn]
        rfl
      have v63 : -(2 ^ 63) ≤ v ∧ v < 2 ^ 63 := by omega
      have pr : ((y :: ls)[v.toNat] :: (y :: ls).eraseIdx v.toNat).Perm (y :: ls) := erase_perm _ _ _ (List.getElem?_eq_getElem vn)
      rw [popAt_ok a1 v63 (by simpa using si) at_, sat_ok, erase_st]
      have ne1 : h.nx ≠ h.nx + 1 := by omega
      rw [append_ok (ds := stL fs) (by rw [put_ne ne1.symm]; exact a2) (by rw [List.length_map]; exact Nat.lt_of_lt_of_le (by omega) (show 1000 ≤ sizeLine by decide)), sat_ok]
      refine ⟨(y :: ls).eraseIdx v.toNat, by rw [put_ne ne1]; exact put_same, fs ++ [(y :: ls)[v.toNat]], by rw [put_same]; simp [stL], ?_, ?_, ?_, ?_, ?_⟩
      · refine List.Perm.trans ?_ pm
        rw [← List.append_assoc]
        refine (List.perm_append_singleton _ _).trans ?_
        rw [← List.cons_append]
        exact pr.append_right fs
      · have := pr.length_eq
        simp only [List.length_cons] at this
        omega
      · exact A3.keep (Nat.le_refl _) fun j hj => by rw [put_ne (by rcases hj with rfl | rfl <;> omega), put_ne (by rcases hj with rfl | rfl <;> omega)]
      · show h1.nx = h.nx + 2
        rw [f3.1, nx]
      · intro k hk n1 n2
        rw [put_ne (by omega), put_ne (by omega)]
        exact (f3.2 k n1 n2).trans (fr k hk n1 n2)
  · have nw : ∀ k, k < h.nx → ((h.new (.lst (stL ds))).new (.lst [])).ob k = h.ob k := fun k hk => by
      show (if k = h.nx + 1 then _ else if k = h.nx then _ else h.ob k) = _
      rw [if_neg (by omega), if_neg (by omega)]
    refine ⟨ds, [], rfl, ?_, ?_, by simp, rfl, ?_, rfl, fun k hk _ _ => nw k hk⟩
    · show (if h.nx = h.nx + 1 then _ else if h.nx = h.nx then _ else _) = _
      rw [if_neg (by omega), if_pos rfl]
    · show (if h.nx + 1 = h.nx + 1 then _ else _) = _
      rw [if_pos rfl]
      rfl
    · exact A.keep (by show h.nx ≤ h.nx + 2; omega) fun j hj => nw j (by rcases hj with rfl | rfl; exact lt.1; exact lt.2)
theorem chosen_sat {r w n : Nat} {h : CH} {ds : List Str} {a1 a2 a4 : Option D} (A : DrawOk r w (n + ds.length) h) (hl : ds.length < 1000) :
    (dLc false (dSeqI (dVar 3)) (gdName 4) (dB (dOp (fEq false) (dCall 2 F__law_take (dCons (dVar 0) (dCons (dC (.int 2)) (dNil)))) (dC (.int 0)))) (dVar 4) [4] [some (.ref r), a1, a2, some (.lst (stL ds)), a4] h).sat fun d h1 => ∃ zs, d = .lst (stL zs) ∧ zs.Sublist ds ∧ DrawOk r w n h1 ∧ DrFr r w h h1 := by
  have ll : ds.length ≤ sizeLine := Nat.le_trans (Nat.le_of_lt hl) (by decide)
  unfold dLc
  simp [itemsD, ll, wipeD]
  refine sat_lcl (I := fun rest ys h' => ∃ (l1 l2 zs : List Str), ds = l1 ++ l2 ∧ rest = stL l2 ∧ ys = stL zs ∧ zs.Sublist l1 ∧ DrawOk r w (n + l2.length) h' ∧ DrFr r w h h') ?_ (ys := []) ⟨[], ds, [], rfl, rfl, rfl, .slnil, A, .refl⟩ ?_
  · rintro d rest ys h' ⟨l1, l2, zs, e1, e2, rfl, sb, A', f⟩
    cases l2 with
    | nil => cases e2
    | cons x l2 =>
      cases e2
      simp
      refine (take_sat (n := n + l2.length) (by simpa [Nat.add_assoc] using A') (by decide) (by decide)).mono ?_
      rintro d h1 ⟨v, rfl, v0, v1, A3, f3⟩
      simp [eq0_int]
      by_cases c : v = 0
      · simp [c]
        exact ⟨l1 ++ [x], l2, by simp [e1], rfl, zs ++ [x], by simp [stL], sb.append (List.Sublist.refl _), A3, f.trans f3⟩
      · simp [c]
        exact ⟨l1 ++ [x], l2, by simp [e1], rfl, zs, rfl, sb.trans (List.sublist_append_left ..), A3, f.trans f3⟩
  · rintro zs h' ⟨l1, l2, zs', e1, e2, rfl, sb, A', f⟩ l el
    have : l2 = [] := by cases l2 with | nil => rfl | cons => cases e2
    subst this
    simp only [List.nil_append] at el
    subst el
    simp [mkL]
    exact ⟨zs', rfl, by rw [e1]; simpa using sb, A', f⟩
@[simp] theorem sz2 : 2 ≤ sizeLine := by decide
@[simp] theorem sz3 : 3 ≤ sizeLine := by decide
@[simp] theorem sz4 : 4 ≤ sizeLine := by decide
@[simp] theorem sz5 : 5 ≤ sizeLine := by decide
@[simp] theorem sz6 : 6 ≤ sizeLine := by decide
@[simp] theorem sz8 : 8 ≤ sizeLine := by decide
def wUP : List Str := ["one", "late", "blind"]
def wDOWN : List Str := ["one", "two"]
def wWRITES : List Str := ["plain", "both", "again", "behind", "refused"]
def wMOVES : List Str := ["now", "first"]
def wFINISH : List Str := ["one", "link", "cut"]
def wCOUNTS : List Str := ["last", "first", "never"]
def wBARS : List Str := ["cover", "lower", "open", "others", "upper"]
def wNOTES : List Str := ["again", "job", "place"]
theorem pickS {r w n : Nat} {h : CH} {l : List Str} (A : DrawOk r w (n + 1) h) (h0 : l ≠ []) (h1 : l.length < 1000) : (F__law_pick [.ref r, .lst (stL l)] h).sat fun d h1 => ∃ a, a ∈ l ∧ d = .str a ∧ DrawOk r w n h1 ∧ DrFr r w h h1 := by
  refine (pick_sat A (.inl rfl) (by simpa using h0) (by rw [List.length_map]; omega)).mono ?_
  rintro d h1 ⟨m, A', f⟩
  obtain ⟨a, ha, rfl⟩ := List.mem_map.mp m
  exact ⟨a, ha, rfl, A', f⟩
@[simp] theorem zs2 : 2 < sizeLine := by decide
@[simp] theorem zs3 : 3 < sizeLine := by decide
@[simp] theorem zs4 : 4 < sizeLine := by decide
@[simp] theorem zs5 : 5 < sizeLine := by decide
@[simp] theorem zs6 : 6 < sizeLine := by decide
@[simp] theorem zs7 : 7 < sizeLine := by decide
/-- the dict at k is filled -/
structure AW (r w m k : Nat) (kvs : List (Key × D)) (h h' : CH) : Prop where
  ob : h'.ob k = some (.dct kvs)
  dr : DrawOk r w m h'
  le : h.nx ≤ k
  lt : k < h'.nx
  rw_ : r < h.nx ∧ w < h.nx
  fr : ∀ j, j < h.nx → j ≠ r → j ≠ w → h'.ob j = h.ob j
section
variable {r w m k : Nat} {kvs kvs' : List (Key × D)} {h h' h1 : CH} {l : List Str}
theorem AW.draw (A : AW r w m k kvs h h') {n : Nat} (A' : DrawOk r w n h1) (f : DrFr r w h' h1) : AW r w n k kvs h h1 := by
  have := A.rw_
  have := A.le
  exact ⟨(f.2 k (by omega) (by omega)).trans A.ob, A', A.le, by rw [f.1]; exact A.lt, A.rw_, fun j hj n1 n2 => (f.2 j n1 n2).trans (A.fr j hj n1 n2)⟩
theorem AW.pick (A : AW r w (m + 1) k kvs h h') (h0 : l ≠ []) (h1 : l.length < 1000) : (F__law_pick [.ref r, .lst (stL l)] h').sat fun d h1 => ∃ a, a ∈ l ∧ d = .str a ∧ AW r w m k kvs h h1 := by
  refine (pickS A.dr h0 h1).mono ?_
  rintro d h1 ⟨a, ha, rfl, A', f⟩
  exact ⟨a, ha, rfl, A.draw A' f⟩
theorem AW.put (A : AW r w m k kvs h h') : AW r w m k kvs' h (h'.put k (.dct kvs')) := by
  have := A.rw_
  have := A.le
  exact ⟨put_same, A.dr.keep (Nat.le_refl _) fun j hj => put_ne (by rcases hj with rfl | rfl <;> omega), A.le, A.lt, A.rw_, fun j hj n1 n2 => by rw [put_ne (by omega)]; exact A.fr j hj n1 n2⟩
end
theorem mg0 (a b : D) : mergeD [] [(.inr "up", a), (.inr "down", b)] = [(.inr "up", a), (.inr "down", b)] := by kernel_rfl
theorem mg1 (a b c : D) : dPut [(.inr "up", a), (.inr "down", b)] (.inr "writes") c = [(.inr "up", a), (.inr "down", b), (.inr "writes", c)] := by kernel_rfl
theorem mg2 (a b c d : D) : dPut [(.inr "up", a), (.inr "down", b), (.inr "writes", c)] (.inr "moves") d = [(.inr "up", a), (.inr "down", b), (.inr "writes", c), (.inr "moves", d)] := by kernel_rfl
theorem mg3 (a b c d e : D) : dPut [(.inr "up", a), (.inr "down", b), (.inr "writes", c), (.inr "moves", d)] (.inr "finish") e = [(.inr "up", a), (.inr "down", b), (.inr "writes", c), (.inr "moves", d), (.inr "finish", e)] := by kernel_rfl
theorem mg4 (a b c d e f : D) : dPut [(.inr "up", a), (.inr "down", b), (.inr "writes", c), (.inr "moves", d), (.inr "finish", e)] (.inr "counts") f = [(.inr "up", a), (.inr "down", b), (.inr "writes", c), (.inr "moves", d), (.inr "finish", e), (.inr "counts", f)] := by kernel_rfl
abbrev w6 (a b c d e f : D) : List (Key × D) := [(.inr "up", a), (.inr "down", b), (.inr "writes", c), (.inr "moves", d), (.inr "finish", e), (.inr "counts", f)]
abbrev w7 (a b c d e f x : D) : List (Key × D) := [(.inr "up", a), (.inr "down", b), (.inr "writes", c), (.inr "moves", d), (.inr "finish", e), (.inr "counts", f), (.inr "bars", x)]
abbrev w8 (a b c d e f x y : D) : List (Key × D) := [(.inr "up", a), (.inr "down", b), (.inr "writes", c), (.inr "moves", d), (.inr "finish", e), (.inr "counts", f), (.inr "bars", x), (.inr "notes", y)]
theorem mg5 (a b c d e f x : D) : dPut (w6 a b c d e f) (.inr "bars") x = w7 a b c d e f x := by kernel_rfl
theorem mg6 (a b c d e f x y : D) : dPut (w7 a b c d e f x) (.inr "notes") y = w8 a b c d e f x y := by kernel_rfl
/-- words of a book -/
structure Wd (a b c d e f : Str) (bs ns : List Str) : Prop where
  a : a ∈ wUP
  b : b ∈ wDOWN
  c : c ∈ wWRITES
  d : d ∈ wMOVES
  e : e ∈ wFINISH
  f : f ∈ wCOUNTS
  bn : bs.Nodup
  bm : ∀ x, x ∈ bs → x ∈ wBARS
  nn : ns.Nodup
  nm : ∀ x, x ∈ ns → x ∈ wNOTES
theorem AW.far {r w m n k : Nat} {kvs : List (Key × D)} {h h' h1 : CH} (A : AW r w m k kvs h h') (A' : DrawOk r w n h1) (f : Fr [r, w] h' h1) : AW r w n k kvs h h1 := by
  have := A.rw_
  have := A.le
  have := A.lt
  have lt' := A.dr.lt
  refine ⟨(f.2 k A.lt (by simp; omega)).trans A.ob, A', A.le, Nat.lt_of_lt_of_le A.lt f.1, A.rw_, fun j hj n1 n2 => (f.2 j (by omega) (by simp [n1, n2])).trans (A.fr j hj n1 n2)⟩
theorem layB : Layd wBARS := by decide +kernel
theorem layN : Layd wNOTES := by decide +kernel
theorem all_words_sat {r w n : Nat} {h : CH} (A : DrawOk r w (n + 30) h) : (F__law_all_words [.ref r] h).sat fun z h1 => ∃ (a b c d e f : Str) (bs ns : List Str) (k1 k2 : Nat), z = .dct (w8 (.str a) (.str b) (.str c) (.str d) (.str e) (.str f) (.ref k1) (.ref k2)) ∧ Wd a b c d e f bs ns ∧
    h1.ob k1 = some (.lst (stL bs)) ∧ h1.ob k2 = some (.lst (stL ns)) ∧ h.nx ≤ k1 ∧ h.nx ≤ k2 ∧ k1 < h1.nx ∧ k2 < h1.nx ∧ k1 ≠ k2 ∧ DrawOk r w n h1 ∧ h.nx ≤ h1.nx ∧ ∀ j, j < h.nx → j ≠ r → j ≠ w → h1.ob j = h.ob j := by
  unfold F__law_all_words bodyF
  rw [sat_res]
  show (u__law_all_words [some (.ref r), none, none, none, none] h).sat _ _
  unfold u__law_all_words
  rw [s_seq, sat_bindS]
  simp [dDisp, dPairs, mkL]
  refine (pickS (l := wUP) (n := n + 29) A (by decide) (by decide)).mono ?_
  rintro _ h1 ⟨a, ha, rfl, A1, f1⟩
  refine (pickS (l := wDOWN) (n := n + 28) A1 (by decide) (by decide)).mono ?_
  rintro _ h2 ⟨b, hb, rfl, A2, f2⟩
  simp [keysOf, keyD, mkD]
  have f12 := f1.trans f2
  have B0 : AW r w (n + 28) h2.nx [(.inr "up", .str a), (.inr "down", .str b)] h (h2.new (.dct (mergeD [] [(.inr "up", .str a), (.inr "down", .str b)]))) := by
    have lt := A2.lt
    rw [mg0]
    refine ⟨by show (if h2.nx = h2.nx then _ else _) = _; rw [if_pos rfl], A2.keep (Nat.le_succ _) fun j hj => ?_, by rw [f12.1]; exact Nat.le_refl _, Nat.lt_succ_self _, by rw [← f12.1]; exact lt, fun j hj n1 n2 => ?_⟩
    · show (if j = h2.nx then _ else _) = _
      rw [if_neg (by rcases hj with rfl | rfl <;> omega)]
    · show (if j = h2.nx then _ else _) = _
      rw [if_neg (by rw [f12.1]; omega)]
      exact f12.2 j n1 n2
  generalize (h2.new (.dct (mergeD [] [(.inr "up", .str a), (.inr "down", .str b)]))) = g0 at *
  generalize h2.nx = k at *
  rw [Kont, s_seq, sat_bindS]
  simp [mkL]
  refine (B0.pick (l := wWRITES) (m := n + 27) (by decide) (by decide)).mono ?_
  rintro _ g1 ⟨c, hc, rfl, B1⟩
  simp [gdSub, refOf, B1.ob, keyD, mg1]
  replace B1 := B1.put (kvs' := [(.inr "up", .str a), (.inr "down", .str b), (.inr "writes", .str c)])
  generalize g1.put k _ = g1 at *
  rw [Kont, s_seq, sat_bindS]
  simp [mkL]
  refine (B1.pick (l := wMOVES) (m := n + 26) (by decide) (by decide)).mono ?_
  rintro _ g2 ⟨d, hd, rfl, B2⟩
  refine (B2.pick (l := wFINISH) (m := n + 25) (by decide) (by decide)).mono ?_
  rintro _ g3 ⟨e, he, rfl, B3⟩
  simp [gdTup, gdCons, gdNil, gdSub, refOf, B3.ob, keyD, mg2, put_same, mg3]
  replace B3 := (B3.put (kvs' := [(.inr "up", .str a), (.inr "down", .str b), (.inr "writes", .str c), (.inr "moves", .str d)])).put (kvs' := [(.inr "up", .str a), (.inr "down", .str b), (.inr "writes", .str c), (.inr "moves", .str d), (.inr "finish", .str e)])
  generalize (g3.put k _).put k _ = g3 at *
  rw [Kont, s_seq, sat_bindS]
  simp [mkL]
  refine (B3.pick (l := wCOUNTS) (m := n + 24) (by decide) (by decide)).mono ?_
  rintro _ g4 ⟨f, hf, rfl, B4⟩
  simp [gdSub, refOf, B4.ob, keyD, mg4]
  replace B4 := B4.put (kvs' := w6 (.str a) (.str b) (.str c) (.str d) (.str e) (.str f))
  generalize g4.put k _ = g4 at *
  rw [Kont, s_seq, sat_bindS]
  simp [mkL, itemsD]
  refine for_cons ?_
  simp [gdTup, gdCons, gdNil]
  refine (chosen_sat (ds := wBARS) (n := n + 19) B4.dr (by decide)).mono ?_
  rintro _ g5 ⟨bs, rfl, sb, A5, f5⟩
  have B5 := B4.draw A5 f5
  have lb : bs.length ≤ 5 := sb.length_le
  refine (shuffled_sat (n := n + 14) (A5.mono (by omega)) (by omega) (fun x hx => layB x (sb.subset hx))).mono ?_
  rintro _ g6 ⟨k1, zs, rfl, o1, p1, l1, l2, A6, f6⟩
  have B6 := B5.far A6 f6
  simp [gdSub, refOf, B6.ob, keyD, mg5]
  have nk1 : k1 ≠ k := by have := B5.lt; omega
  replace o1 : (g6.put k (.dct (w7 (.str a) (.str b) (.str c) (.str d) (.str e) (.str f) (.ref k1)))).ob k1 = some (.lst (stL zs)) := by rw [put_ne nk1]; exact o1
  replace B6 := B6.put (kvs' := w7 (.str a) (.str b) (.str c) (.str d) (.str e) (.str f) (.ref k1))
  have l2' : k1 < (g6.put k (.dct (w7 (.str a) (.str b) (.str c) (.str d) (.str e) (.str f) (.ref k1)))).nx := l2
  have le1 : h.nx ≤ k1 := by have := B5.lt; have := B5.le; omega
  generalize g6.put k _ = g7 at *
  rw [Kont]
  refine for_cons ?_
  simp [gdTup, gdCons, gdNil]
  refine (chosen_sat (ds := wNOTES) (n := n + 11) B6.dr (by decide)).mono ?_
  rintro _ g8 ⟨ns, rfl, sn, A8, f8⟩
  have B8 := B6.draw A8 f8
  have ln : ns.length ≤ 3 := sn.length_le
  have rw_ := B8.rw_
  have o2 : g8.ob k1 = some (.lst (stL zs)) := (f8.2 k1 (by omega) (by omega)).trans o1
  refine (shuffled_sat (n := n) (A8.mono (by omega)) (by omega) (fun x hx => layN x (sn.subset hx))).mono ?_
  rintro _ g9 ⟨k2, ys, rfl, q1, p2, m1, m2, A9, f9⟩
  have B9 := B8.far A9 f9
  have nx8 : g8.nx = g7.nx := f8.1
  simp [gdSub, refOf, B9.ob, keyD, mg6]
  have nk2 : k2 ≠ k := by have := B8.lt; omega
  have n12 : k1 ≠ k2 := by omega
  have o3 : g9.ob k1 = some (.lst (stL zs)) := (f9.2 k1 (by omega) (by simp; omega)).trans o2
  have B10 := B9.put (kvs' := w8 (.str a) (.str b) (.str c) (.str d) (.str e) (.str f) (.ref k1) (.ref k2))
  rw [Kont, for_nil, Kont]
  simp [fzI, fz, B10.ob]
  have kn : k < g9.nx := B9.lt
  refine ⟨a, b, c, d, e, f, zs, ys, k1, k2, ⟨rfl, rfl, rfl, rfl, rfl, rfl, rfl, rfl⟩, ⟨ha, hb, hc, hd, he, hf, ?_, ?_, ?_, ?_⟩, ?_, ?_, le1, by omega, ?_, ?_, n12, ?_, ?_, ?_⟩
  · exact p1.nodup_iff.mpr ((by decide +kernel : wBARS.Nodup).sublist sb)
  · exact fun x hx => sb.subset (p1.mem_iff.mp hx)
  · exact p2.nodup_iff.mpr ((by decide +kernel : wNOTES.Nodup).sublist sn)
  · exact fun x hx => sn.subset (p2.mem_iff.mp hx)
  · rw [del_ne nk1, put_ne nk1]; exact o3
  · rw [del_ne nk2, put_ne nk2]; exact q1
  · show k1 < g9.nx
    exact Nat.lt_of_lt_of_le (by omega) f9.1
  · exact m2
  · exact A9.keep (Nat.le_refl _) fun j hj => by
      have : j ≠ k := by rcases hj with rfl | rfl <;> (have := B9.le; omega)
      rw [del_ne this, put_ne this]
  · show h.nx ≤ g9.nx
    have := B9.le
    omega
  · intro j hj n1 n2
    have : j ≠ k := by have := B9.le; omega
    rw [del_ne this, put_ne this]
    exact B9.fr j hj n1 n2
/-! ### books -/
theorem need_word_sat {h : CH} {f : D} {x : Str} {ws : List Str} (m : x ∈ ws) : (F_need_word [f, .str x, .tup (stL ws)] h).sat fun d h1 => d = .non ∧ h1 = h := by
  unfold F_need_word bodyF
  rw [sat_res]
  show (u_need_word [some f, some (.str x), some (.tup (stL ws))] h).sat _ _
  unfold u_need_word
  have e1 : ∀ hh : CH, fIsi [0] (ktT [[.o 0]] tys) [.str x, .ty "str"] hh = .ok (.bl true) hh := fun hh => by rfl
  simp [e1, fIn_ok m, bneg]
theorem need_words_sat {h : CH} {f X : D} {l ws : List Str} (s : SeqS h X l) (nd : l.Nodup) (hl : l.length < 64) (m : ∀ x, x ∈ l → x ∈ ws) : (F_need_words [f, X, .tup (stL ws)] h).sat fun d h1 => d = .non ∧ h1 = h := by
  unfold F_need_words bodyF
  rw [sat_res]
  show (u_need_words [some f, some X, some (.tup (stL ws)), none] h).sat _ _
  unfold u_need_words
  have e1 : fIsT [0] (ktT [[.o 0]] tys) [X, .tup [.ty "list", .ty "tuple"]] h = .ok (.bl true) h := by
    rcases s with ⟨k, rfl, e⟩ | rfl | rfl
    · unfold fIsT
      simp only [tgOf, e]
      rfl
    · rfl
    · rfl
  rw [s_seq, sat_bindS]
  simp [e1]
  rw [Kont, s_seq, sat_bindS]
  refine sat_walk s rfl (I := fun r ρ => (∀ x, x ∈ r → x ∈ ws) ∧ ∃ o, ρ = [some f, some X, some (.tup (stL ws)), o]) ⟨m, none, rfl⟩ ?_ ?_
  · rintro x r ρ h' ⟨q, o, rfl⟩
    simp
    refine (need_word_sat (q x (List.mem_cons_self ..))).mono ?_
    rintro d h1 ⟨rfl, rfl⟩
    exact ⟨rfl, fun y hy => q y (List.mem_cons_of_mem _ hy)⟩
  · rintro ρ ⟨_, o, rfl⟩
    rw [Kont]
    simp [fLenS_ok s nd (by omega), fLen_ok s, fB]
def bookD (ws bs ns : List Str) : D := .obj 0 [("b_words", .tup (stL ws)), ("b_bars", .tup (stL bs)), ("b_notes", .tup (stL ns))]
theorem pd1 (x y : D) : putD (Str.ofString "b_bars") y [(Str.ofString "b_words", x)] = [(Str.ofString "b_words", x), (Str.ofString "b_bars", y)] := by kernel_rfl
theorem pd2 (x y z : D) : putD (Str.ofString "b_notes") z [(Str.ofString "b_words", x), (Str.ofString "b_bars", y)] = [(Str.ofString "b_words", x), (Str.ofString "b_bars", y), (Str.ofString "b_notes", z)] := by kernel_rfl
theorem init_sat {h : CH} {o : Nat} {X Y : D} {a b c d e f : Str} {bs ns : List Str} (W : Wd a b c d e f bs ns) (sx : SeqS h X bs) (sy : SeqS h Y ns) (eo : h.ob o = some (.obj 0 [])) (nx : X ≠ .ref o) (ny : Y ≠ .ref o) :
    (F_Book_init [.ref o, .str a, .str b, .str c, .str d, .str e, .str f, X, Y] h).sat fun z h1 => z = .non ∧ h1 = h.put o (.obj 0 [("b_words", .tup (stL [a, b, c, d, e, f])), ("b_bars", .tup (stL (sortS bs))), ("b_notes", .tup (stL (sortS ns)))]) := by
  unfold F_Book_init bodyF
  rw [sat_res]
  show (u_Book_init [some (.ref o), some (.str a), some (.str b), some (.str c), some (.str d), some (.str e), some (.str f), some X, some Y] h).sat _ _
  unfold u_Book_init
  rw [s_seq, sat_bindS]
  simp
  refine (need_word_sat (ws := wUP) W.a).mono ?_
  rintro _ h1 ⟨rfl, rfl⟩
  rw [Kont, s_seq, sat_bindS]
  simp
  refine (need_word_sat (ws := wDOWN) W.b).mono ?_
  rintro _ h1 ⟨rfl, rfl⟩
  rw [Kont, s_seq, sat_bindS]
  simp
  refine (need_word_sat (ws := wWRITES) W.c).mono ?_
  rintro _ h1 ⟨rfl, rfl⟩
  rw [Kont, s_seq, sat_bindS]
  simp
  refine (need_word_sat (ws := wMOVES) W.d).mono ?_
  rintro _ h1 ⟨rfl, rfl⟩
  rw [Kont, s_seq, sat_bindS]
  simp
  refine (need_word_sat (ws := wFINISH) W.e).mono ?_
  rintro _ h1 ⟨rfl, rfl⟩
  rw [Kont, s_seq, sat_bindS]
  simp
  refine (need_word_sat (ws := wCOUNTS) W.f).mono ?_
  rintro _ h1 ⟨rfl, rfl⟩
  rw [Kont, s_seq, sat_bindS]
  simp
  have lb : bs.length ≤ 5 := List.Nodup.length_le_of_subset W.bn (fun x hx => W.bm x hx)
  have ln : ns.length ≤ 3 := List.Nodup.length_le_of_subset W.nn (fun x hx => W.nm x hx)
  refine (need_words_sat (ws := wBARS) sx W.bn (by omega) W.bm).mono ?_
  rintro _ h1 ⟨rfl, rfl⟩
  rw [Kont, s_seq, sat_bindS]
  simp
  refine (need_words_sat (ws := wNOTES) sy W.nn (by omega) W.nm).mono ?_
  rintro _ h1 ⟨rfl, rfl⟩
  rw [Kont, s_seq, sat_bindS]
  simp [gdFld, refOf, eo, putD]
  have sx1 : SeqS (h1.put o (.obj 0 [("b_words", .tup [.str a, .str b, .str c, .str d, .str e, .str f])])) X bs := by
    rcases sx with ⟨k, rfl, ek⟩ | rfl | rfl
    · exact .inl ⟨k, rfl, by rw [put_ne (fun z => nx (by rw [z]))]; exact ek⟩
    · exact .inr (.inl rfl)
    · exact .inr (.inr rfl)
  rw [Kont, s_seq, sat_bindS]
  simp [fSrt_ok sx1 (by omega), fTupOf, lstOf, gdFld, refOf, put_same, put_put, pd1]
  have sy1 : SeqS (h1.put o (.obj 0 [("b_words", .tup [.str a, .str b, .str c, .str d, .str e, .str f]), ("b_bars", .tup (stL (sortS bs)))])) Y ns := by
    rcases sy with ⟨k, rfl, ek⟩ | rfl | rfl
    · exact .inl ⟨k, rfl, by rw [put_ne (fun z => ny (by rw [z]))]; exact ek⟩
    · exact .inr (.inl rfl)
    · exact .inr (.inr rfl)
  rw [Kont]
  simp [fSrt_ok sy1 (by omega), fTupOf, lstOf, gdFld, refOf, put_same, put_put, pd2]
/-- behind a call that keeps what stood -/
structure Kp (h h1 : CH) : Prop where
  nx : h.nx ≤ h1.nx
  ob : ∀ j, j < h.nx → h1.ob j = h.ob j
theorem Kp.refl {h : CH} : Kp h h := ⟨Nat.le_refl _, fun _ _ => rfl⟩
theorem Kp.trans {h h1 h2 : CH} (a : Kp h h1) (b : Kp h1 h2) : Kp h h2 := ⟨Nat.le_trans a.nx b.nx, fun j l => (b.ob j (Nat.lt_of_lt_of_le l a.nx)).trans (a.ob j l)⟩
/-- a book is made -/
theorem make_sat {h : CH} {X Y : D} {a b c d e f : Str} {bs ns : List Str} (W : Wd a b c d e f bs ns) (sx : SeqS h X bs) (sy : SeqS h Y ns) (lx : ∀ k, X = .ref k → k < h.nx) (ly : ∀ k, Y = .ref k → k < h.nx) :
    ((F_Book_init [.ref h.nx, .str a, .str b, .str c, .str d, .str e, .str f, X, Y] (h.new (.obj 0 []))).bind fun r h2 => match r with
      | .non => if true = true then fz (.ref h.nx) h2 else .ok (.ref h.nx) h2
      | _ => .no).sat fun z h1 => z = bookD [a, b, c, d, e, f] (sortS bs) (sortS ns) ∧ Kp h h1 := by
  have nw : ∀ j, j < h.nx → (h.new (.obj 0 [])).ob j = h.ob j := fun j hj => by
    show (if j = h.nx then _ else _) = _
    rw [if_neg (by omega)]
  have up : ∀ {X : D} {l : List Str}, SeqS h X l → (∀ k, X = .ref k → k < h.nx) → SeqS (h.new (.obj 0 [])) X l := fun {X l} s lt => by
    rcases s with ⟨k, rfl, ek⟩ | rfl | rfl
    · exact .inl ⟨k, rfl, by rw [nw k (lt k rfl)]; exact ek⟩
    · exact .inr (.inl rfl)
    · exact .inr (.inr rfl)
  rw [sat_bind]
  refine (init_sat W (up sx lx) (up sy ly) (by show (if h.nx = h.nx then _ else _) = _; rw [if_pos rfl]) (fun z => by have := lx _ z; omega) (fun z => by have := ly _ z; omega)).mono ?_
  rintro z h1 ⟨rfl, rfl⟩
  simp only [if_true]
  unfold fz
  simp only [put_same]
  refine ⟨rfl, Nat.le_succ _, fun j hj => ?_⟩
  rw [del_ne (by omega), put_ne (by omega)]
  exact nw j hj
section
variable {a b c d e f x y : D} {h : CH}
theorem ix_up : fIx (.dct (w8 a b c d e f x y)) (.str (Str.ofString "up")) h = .ok a h := by kernel_rfl
theorem ix_down : fIx (.dct (w8 a b c d e f x y)) (.str (Str.ofString "down")) h = .ok b h := by kernel_rfl
theorem ix_writes : fIx (.dct (w8 a b c d e f x y)) (.str (Str.ofString "writes")) h = .ok c h := by kernel_rfl
theorem ix_moves : fIx (.dct (w8 a b c d e f x y)) (.str (Str.ofString "moves")) h = .ok d h := by kernel_rfl
theorem ix_finish : fIx (.dct (w8 a b c d e f x y)) (.str (Str.ofString "finish")) h = .ok e h := by kernel_rfl
theorem ix_counts : fIx (.dct (w8 a b c d e f x y)) (.str (Str.ofString "counts")) h = .ok f h := by kernel_rfl
theorem ix_bars : fIx (.dct (w8 a b c d e f x y)) (.str (Str.ofString "bars")) h = .ok x h := by kernel_rfl
theorem ix_notes : fIx (.dct (w8 a b c d e f x y)) (.str (Str.ofString "notes")) h = .ok y h := by kernel_rfl
end
@[simp] theorem e_makeN {c0 n l : Nat} {fr : Bool} {src : List Src} {F : FD} {ts tk : TDs} {ρ : DE} {h : CH} : dMakeN c0 fr n l src F ts tk ρ h = (ts ρ h).bind fun ds h => (tk ρ h).bind fun zs h => if ds.length + 1 = n ∧ zs.length = l then (F (pickD (.ref h.nx :: ds) zs src) (h.new (.obj c0 []))).bind fun r h2 => match r with
  | .non => if fr = true then fz (.ref h.nx) h2 else .ok (.ref h.nx) h2
  | _ => .no
  else .no := rfl
abbrev wordsD (a b c d e f : Str) (k1 k2 : Nat) : D := .dct (w8 (.str a) (.str b) (.str c) (.str d) (.str e) (.str f) (.ref k1) (.ref k2))
theorem ix40 {a b c d : D} {h : CH} : fIx (.lst [a, b, c, d]) (.int 0) h = .ok a h := by rfl
theorem ix41 {a b c d : D} {h : CH} : fIx (.lst [a, b, c, d]) (.int 1) h = .ok b h := by rfl
theorem ix42 {a b c d : D} {h : CH} : fIx (.lst [a, b, c, d]) (.int 2) h = .ok c h := by rfl
theorem ix43 {a b c d : D} {h : CH} : fIx (.lst [a, b, c, d]) (.int 3) h = .ok d h := by rfl
theorem made_sat {h : CH} {k1 k2 : Nat} {a b c d e f : Str} {bs ns : List Str} (W : Wd a b c d e f bs ns) (o1 : h.ob k1 = some (.lst (stL bs))) (o2 : h.ob k2 = some (.lst (stL ns))) (l1 : k1 < h.nx) (l2 : k2 < h.nx) :
    (F__law_made [wordsD a b c d e f k1 k2] h).sat fun z h1 => z = bookD [a, b, c, d, e, f] (sortS bs) (sortS ns) ∧ Kp h h1 := by
  unfold F__law_made bodyF
  rw [sat_res]
  show (u__law_made [some (wordsD a b c d e f k1 k2), none, none, none] h).sat _ _
  unfold u__law_made
  rw [s_seq, sat_bindS]
  simp [ix_bars, ix_notes]
  rw [Kont, s_seq, sat_bindS]
  simp [ix_writes, ix_moves, ix_finish, ix_counts, mkL]
  rw [Kont]
  simp [ix_up, ix_down, ix40, ix41, ix42, ix43, pickD]
  have q := make_sat W (.inl ⟨k1, rfl, o1⟩) (.inl ⟨k2, rfl, o2⟩) (fun k z => by cases z; exact l1) (fun k z => by cases z; exact l2)
  simp only [sat_bind, if_true] at q
  exact q
theorem due_sat {h : CH} {k1 k2 : Nat} {a b c d e f : Str} {bs ns : List Str} (W : Wd a b c d e f bs ns) (o1 : h.ob k1 = some (.lst (stL bs))) (o2 : h.ob k2 = some (.lst (stL ns))) :
    (F__law_due [wordsD a b c d e f k1 k2] h).sat fun z h1 => z = rowD [a, b, c, d, e, f] [sortS bs, sortS ns] ∧ h1 = h := by
  have lb : bs.length ≤ 5 := List.Nodup.length_le_of_subset W.bn (fun x hx => W.bm x hx)
  have ln : ns.length ≤ 3 := List.Nodup.length_le_of_subset W.nn (fun x hx => W.nm x hx)
  unfold F__law_due bodyF
  rw [sat_res]
  show (u__law_due [some (wordsD a b c d e f k1 k2), none, none] h).sat _ _
  unfold u__law_due
  rw [s_seq, sat_bindS]
  simp [dLc, itemsD, mkL, dLcL, wipeD, dYes, ix_up, ix_down, ix_writes, ix_moves, ix_finish, ix_counts]
  rw [Kont]
  simp [ix_bars, ix_notes, fSrt_ok (.inl ⟨k1, rfl, o1⟩) (show bs.length < 64 by omega), fSrt_ok (.inl ⟨k2, rfl, o2⟩) (show ns.length < 64 by omega), fTupOf, lstOf, mkL, fAdd]
  rfl
theorem fields_eq {h : CH} {a b c d e f : Str} {bs ns : List Str} : F__law_all_fields [bookD [a, b, c, d, e, f] bs ns] h = .ok (rowD [a, b, c, d, e, f] [bs, ns]) h := by kernel_rfl
theorem sortS_srt (l : List Str) : (sortS l).Pairwise (fun a b => ltS b a = false) := sortB_sorted (lt := ltS) (fun a b q => ltCps_asym _ _ q) (fun a b c q1 q2 => ltCps_tr _ _ _ q1 q2) l
theorem sortS_same {l l' : List Str} (p : l.Perm l') : sortS l = sortS l' :=
  (((sortS_perm l).trans p).trans (sortS_perm l').symm).eq_of_pairwise (fun a b _ _ h1 h2 => str_cps (ltCps_tot _ _ h2 h1)) (sortS_srt l) (sortS_srt l')
theorem sortS_idem (l : List Str) : sortS (sortS l) = sortS l := sortS_same (sortS_perm l)
@[simp] theorem e_methN {c0 n l : Nat} {nm : Str} {src : List Src} {F : FD} {ta : TD} {ts tk : TDs} {ρ : DE} {h : CH} : dMethN c0 nm n l src F ta ts tk ρ h = (ta ρ h).bind fun d h => match objOf h d with
  | some (c, fs) => if c = c0 ∧ (fs.lookup nm).isNone = true then (ts ρ h).bind fun ds h => (tk ρ h).bind fun zs h => if ds.length + 1 = n ∧ zs.length = l then F (pickD (d :: ds) zs src) h else .no else .no
  | none => .no := rfl
abbrev flds (ws bs ns : List Str) : List (Str × D) := [("b_words", .tup (stL ws)), ("b_bars", .tup (stL bs)), ("b_notes", .tup (stL ns))]
section
variable {h : CH} {ws bs ns : List Str}
@[simp] theorem obj_book : objOf h (bookD ws bs ns) = some (0, flds ws bs ns) := rfl
@[simp] theorem lk_sets : (flds ws bs ns).lookup (Str.ofString "with_sets") = none := by kernel_rfl
@[simp] theorem lk_bars : (flds ws bs ns).lookup (Str.ofString "with_bars") = none := by kernel_rfl
@[simp] theorem lk_notes : (flds ws bs ns).lookup (Str.ofString "with_notes") = none := by kernel_rfl
@[simp] theorem fl_words : fFld [0] (Str.ofString "b_words") (bookD ws bs ns) h = .ok (.tup (stL ws)) h := by kernel_rfl
@[simp] theorem fl_bars : fFld [0] (Str.ofString "b_bars") (bookD ws bs ns) h = .ok (.tup (stL bs)) h := by kernel_rfl
@[simp] theorem fl_notes : fFld [0] (Str.ofString "b_notes") (bookD ws bs ns) h = .ok (.tup (stL ns)) h := by kernel_rfl
end
theorem Wd.sets {a b c d e f : Str} {bs ns bs' ns' : List Str} (W : Wd a b c d e f bs ns) (h1 : bs'.Nodup) (h2 : ∀ x, x ∈ bs' → x ∈ wBARS) (h3 : ns'.Nodup) (h4 : ∀ x, x ∈ ns' → x ∈ wNOTES) : Wd a b c d e f bs' ns' := ⟨W.a, W.b, W.c, W.d, W.e, W.f, h1, h2, h3, h4⟩
theorem Wd.srt {a b c d e f : Str} {bs ns : List Str} (W : Wd a b c d e f bs ns) : Wd a b c d e f (sortS bs) (sortS ns) :=
  W.sets ((sortS_perm bs).nodup_iff.mpr W.bn) (fun x hx => W.bm x ((sortS_perm bs).mem_iff.mp hx)) ((sortS_perm ns).nodup_iff.mpr W.nn) fun x hx => W.nm x ((sortS_perm ns).mem_iff.mp hx)
theorem layW : Layd (wUP ++ wDOWN ++ wWRITES ++ wMOVES ++ wFINISH ++ wCOUNTS ++ wBARS ++ wNOTES) := by decide +kernel
theorem shortW : ∀ x, x ∈ wUP ++ wDOWN ++ wWRITES ++ wMOVES ++ wFINISH ++ wCOUNTS ++ wBARS ++ wNOTES → (reprText x).length ≤ 50 := by decide +kernel
end W_whilemerged_k02_books_made
namespace W_whilemerged_k02_books_made
open PySem PySem.Spec PyProof.Rows L2 CM
/-- a dict, named or free -/
def DctS (h : CH) (T : D) (kvs : List (Key × D)) : Prop := T = .dct kvs ∨ ∃ k, T = .ref k ∧ h.ob k = some (.dct kvs)
theorem ixS {h : CH} {T : D} {kvs : List (Key × D)} {s : Str} (t : DctS h T kvs) : fIx T (.str s) h = fIx (.dct kvs) (.str s) h := by
  rcases t with rfl | ⟨k, rfl, e⟩
  · rfl
  · simp [fIx, seqOf, dctOf, e]
abbrev w8S (a b c d e f : Str) (X Y : D) : List (Key × D) := w8 (.str a) (.str b) (.str c) (.str d) (.str e) (.str f) X Y
theorem madeX_sat {h : CH} {T X Y : D} {a b c d e f : Str} {bs ns : List Str} (W : Wd a b c d e f bs ns) (t : DctS h T (w8S a b c d e f X Y)) (sx : SeqS h X bs) (sy : SeqS h Y ns) (lx : ∀ k, X = .ref k → k < h.nx) (ly : ∀ k, Y = .ref k → k < h.nx) :
    (F__law_made [T] h).sat fun z h1 => z = bookD [a, b, c, d, e, f] (sortS bs) (sortS ns) ∧ Kp h h1 := by
  unfold F__law_made bodyF
  rw [sat_res]
  show (u__law_made [some T, none, none, none] h).sat _ _
  unfold u__law_made
  rw [s_seq, sat_bindS]
  simp [ixS t, ix_bars, ix_notes]
  rw [Kont, s_seq, sat_bindS]
  simp [ixS t, ix_writes, ix_moves, ix_finish, ix_counts, mkL]
  rw [Kont]
  simp [ixS t, ix_up, ix_down, ix40, ix41, ix42, ix43, pickD]
  have q := make_sat W sx sy lx ly
  simp only [sat_bind, if_true] at q
  exact q
theorem dueX_sat {h : CH} {T X Y : D} {a b c d e f : Str} {bs ns : List Str} (W : Wd a b c d e f bs ns) (t : DctS h T (w8S a b c d e f X Y)) (sx : SeqS h X bs) (sy : SeqS h Y ns) :
    (F__law_due [T] h).sat fun z h1 => z = rowD [a, b, c, d, e, f] [sortS bs, sortS ns] ∧ h1 = h := by
  have lb : bs.length ≤ 5 := List.Nodup.length_le_of_subset W.bn (fun x hx => W.bm x hx)
  have ln : ns.length ≤ 3 := List.Nodup.length_le_of_subset W.nn (fun x hx => W.nm x hx)
  unfold F__law_due bodyF
  rw [sat_res]
  show (u__law_due [some T, none, none] h).sat _ _
  unfold u__law_due
  rw [s_seq, sat_bindS]
  simp [dLc, itemsD, mkL, dLcL, wipeD, dYes, ixS t, ix_up, ix_down, ix_writes, ix_moves, ix_finish, ix_counts]
  rw [Kont]
  simp [ixS t, ix_bars, ix_notes, fSrt_ok sx (show bs.length < 64 by omega), fSrt_ok sy (show ns.length < 64 by omega), fTupOf, lstOf, mkL, fAdd]
  rfl
theorem SeqS.kp {h h1 : CH} {X : D} {l : List Str} (s : SeqS h X l) (lx : ∀ k, X = .ref k → k < h.nx) (k : Kp h h1) : SeqS h1 X l := by
  rcases s with ⟨j, rfl, ek⟩ | rfl | rfl
  · exact .inl ⟨j, rfl, by rw [k.ob j (lx j rfl)]; exact ek⟩
  · exact .inr (.inl rfl)
  · exact .inr (.inr rfl)
/-- a dict that differs in one field -/
def Near (r w n : Nat) (h h1 : CH) (z : D) : Prop := ∃ (a b c d e f : Str) (bs ns : List Str) (X Y : D), z = .dct (w8S a b c d e f X Y) ∧ Wd a b c d e f bs ns ∧ SeqS h1 X bs ∧ SeqS h1 Y ns ∧ (∀ k, X = .ref k → k < h1.nx) ∧ (∀ k, Y = .ref k → k < h1.nx) ∧ DrawOk r w n h1 ∧ h.nx ≤ h1.nx ∧ ∀ j, j < h.nx → j ≠ r → j ≠ w → h1.ob j = h.ob j
section
variable {a b c d e f x y z : D}
theorem pu0 : dPut (w8 a b c d e f x y) (.inr "up") z = w8 z b c d e f x y := by kernel_rfl
theorem pu1 : dPut (w8 a b c d e f x y) (.inr "down") z = w8 a z c d e f x y := by kernel_rfl
theorem pu2 : dPut (w8 a b c d e f x y) (.inr "writes") z = w8 a b z d e f x y := by kernel_rfl
theorem pu3 : dPut (w8 a b c d e f x y) (.inr "moves") z = w8 a b c z e f x y := by kernel_rfl
theorem pu4 : dPut (w8 a b c d e f x y) (.inr "finish") z = w8 a b c d z f x y := by kernel_rfl
theorem pu5 : dPut (w8 a b c d e f x y) (.inr "counts") z = w8 a b c d e z x y := by kernel_rfl
theorem pu6 : dPut (w8 a b c d e f x y) (.inr "bars") z = w8 a b c d e f z y := by kernel_rfl
theorem pu7 : dPut (w8 a b c d e f x y) (.inr "notes") z = w8 a b c d e f x z := by kernel_rfl
end
end W_whilemerged_k02_books_made
namespace W_whilemerged_k02_books_made
open PySem PySem.Spec PyProof.Rows L2 CM
def wNAMES : List Str := ["up", "down", "writes", "moves", "finish", "counts", "bars", "notes"]
theorem near_sat {r w n kt : Nat} {h : CH} {a b c d e f : Str} {bs ns : List Str} (A : DrawOk r w (n + 31) h) (W : Wd a b c d e f bs ns) (ot : h.ob kt = some (.dct (w8S a b c d e f (.tup (stL bs)) (.tup (stL ns))))) (lt : kt < h.nx) (nr : kt ≠ r) (nw : kt ≠ w) :
    (F__law_near [.ref r, .ref kt] h).sat fun z h1 => Near r w n h h1 z := by
  unfold F__law_near bodyF
  rw [sat_res]
  show (u__law_near [some (.ref r), some (.ref kt), none, none, none] h).sat _ _
  unfold u__law_near
  rw [s_seq, sat_bindS]
  simp
  refine (all_words_sat (n := n + 1) A).mono ?_
  rintro _ h1 ⟨a', b', c', d', e', f', bs', ns', k1, k2, rfl, W', o1, o2, g1, g2, g3, g4, g5, A1, g6, g7⟩
  have ot1 : h1.ob kt = some (.dct (w8S a b c d e f (.tup (stL bs)) (.tup (stL ns)))) := (g7 kt lt nr nw).trans ot
  have rw0 := A.lt
  simp [fDctOf, dctOf, ot1, mkD]
  generalize hg : h1.new (.dct (w8S a b c d e f (.tup (stL bs)) (.tup (stL ns)))) = g
  have nwob : ∀ j, j < h1.nx → g.ob j = h1.ob j := fun j hj => by
    rw [← hg]
    show (if j = h1.nx then _ else _) = _
    rw [if_neg (by omega)]
  have og : g.ob h1.nx = some (.dct (w8S a b c d e f (.tup (stL bs)) (.tup (stL ns)))) := by
    rw [← hg]
    show (if h1.nx = h1.nx then _ else _) = _
    rw [if_pos rfl]
  have gnx : g.nx = h1.nx + 1 := by rw [← hg]; rfl
  have Ag : DrawOk r w (n + 1) g := A1.keep (by omega) fun j hj => nwob j (by rcases hj with rfl | rfl <;> omega)
  rw [Kont, s_seq, sat_bindS]
  simp [mkL]
  refine (pickS (l := wNAMES) (n := n) Ag (by decide) (by decide)).mono ?_
  rintro _ h2 ⟨nm, hm, rfl, A2, f2⟩
  have o2k : h2.ob h1.nx = some (.dct (w8S a b c d e f (.tup (stL bs)) (.tup (stL ns)))) := (f2.2 h1.nx (by omega) (by omega)).trans og
  have fr : ∀ j, j < h1.nx → j ≠ r → j ≠ w → h2.ob j = h1.ob j := fun j hj n1 n2 => (f2.2 j n1 n2).trans (nwob j hj)
  -- the end, field by field
  have fin : ∀ (v : D) (kvs : List (Key × D)), fIx (.dct (w8S a' b' c' d' e' f' (.ref k1) (.ref k2))) (.str nm) h2 = .ok v h2 → dPut (w8S a b c d e f (.tup (stL bs)) (.tup (stL ns))) (.inr nm) v = kvs →
      (∀ h4 : CH, h2.nx ≤ h4.nx → (∀ j, j ≠ h1.nx → h4.ob j = h2.ob j) → Near r w n h h4 (.dct kvs)) →
      Kont (dSeq (dAsg (dOp fIx (dVar 2) (dVar 4)) (gdSub (dVar 3) (dVar 4))) (dRet (dUn fzI (dVar 3)))) (fun _ h5 => Near r w n h h5 .non) (fun z h1 => Near r w n h h1 z)
        [some (.ref r), some (.ref kt), some (.dct (w8S a' b' c' d' e' f' (.ref k1) (.ref k2))), some (.ref h1.nx), some (.str nm)] h2 := by
    intro v kvs e1 e2 k
    rw [Kont, s_seq, sat_bindS]
    simp [e1, gdSub, refOf, o2k, keyD, e2]
    rw [Kont]
    simp [fzI, fz, put_same]
    exact ⟨by decide, k ((h2.put h1.nx (.dct kvs)).del h1.nx) (Nat.le_refl _) fun j hj => by rw [del_ne hj, put_ne hj]⟩
  have good : ∀ (h4 : CH) (kvs : List (Key × D)), h2.nx ≤ h4.nx → (∀ j, j ≠ h1.nx → h4.ob j = h2.ob j) → (∃ (a b c d e f : Str) (bs ns : List Str) (X Y : D), kvs = w8S a b c d e f X Y ∧ Wd a b c d e f bs ns ∧ SeqS h4 X bs ∧ SeqS h4 Y ns ∧ (∀ k, X = .ref k → k = k1) ∧ (∀ k, Y = .ref k → k = k2)) → Near r w n h h4 (.dct kvs) := by
    rintro h4 kvs l4 q4 ⟨a, b, c, d, e, f, bs, ns, X, Y, rfl, W, sx, sy, lx, ly⟩
    refine ⟨a, b, c, d, e, f, bs, ns, X, Y, rfl, W, sx, sy, fun k z => ?_, fun k z => ?_, A2.keep l4 fun j hj => q4 j (by rcases hj with rfl | rfl <;> omega), ?_, fun j hj n1 n2 => ?_⟩
    · rw [lx k z]; have := f2.1; omega
    · rw [ly k z]; have := f2.1; omega
    · have := f2.1; omega
    · rw [q4 j (by omega), fr j (by omega) n1 n2]; exact g7 j hj n1 n2
  have s1 : ∀ h4 : CH, (∀ j, j ≠ h1.nx → h4.ob j = h2.ob j) → SeqS h4 (.ref k1) bs' := fun h4 q => .inl ⟨k1, rfl, by rw [q k1 (by omega), fr k1 g3 (by omega) (by omega)]; exact o1⟩
  have s2 : ∀ h4 : CH, (∀ j, j ≠ h1.nx → h4.ob j = h2.ob j) → SeqS h4 (.ref k2) ns' := fun h4 q => .inl ⟨k2, rfl, by rw [q k2 (by omega), fr k2 g4 (by omega) (by omega)]; exact o2⟩
  have t1 : ∀ h4 : CH, SeqS h4 (.tup (stL bs)) bs := fun h4 => .inr (.inr rfl)
  have t2 : ∀ h4 : CH, SeqS h4 (.tup (stL ns)) ns := fun h4 => .inr (.inr rfl)
  have m : nm = "up" ∨ nm = "down" ∨ nm = "writes" ∨ nm = "moves" ∨ nm = "finish" ∨ nm = "counts" ∨ nm = "bars" ∨ nm = "notes" := by simpa [wNAMES] using hm
  rcases m with rfl | rfl | rfl | rfl | rfl | rfl | rfl | rfl
  · exact fin _ _ ix_up pu0 fun h4 l q => good h4 _ l q ⟨_, _, _, _, _, _, bs, ns, _, _, rfl, ⟨W'.a, W.b, W.c, W.d, W.e, W.f, W.bn, W.bm, W.nn, W.nm⟩, t1 _, t2 _, fun k z => (nomatch z), fun k z => (nomatch z)⟩
  · exact fin _ _ ix_down pu1 fun h4 l q => good h4 _ l q ⟨_, _, _, _, _, _, bs, ns, _, _, rfl, ⟨W.a, W'.b, W.c, W.d, W.e, W.f, W.bn, W.bm, W.nn, W.nm⟩, t1 _, t2 _, fun k z => (nomatch z), fun k z => (nomatch z)⟩
  · exact fin _ _ ix_writes pu2 fun h4 l q => good h4 _ l q ⟨_, _, _, _, _, _, bs, ns, _, _, rfl, ⟨W.a, W.b, W'.c, W.d, W.e, W.f, W.bn, W.bm, W.nn, W.nm⟩, t1 _, t2 _, fun k z => (nomatch z), fun k z => (nomatch z)⟩
  · exact fin _ _ ix_moves pu3 fun h4 l q => good h4 _ l q ⟨_, _, _, _, _, _, bs, ns, _, _, rfl, ⟨W.a, W.b, W.c, W'.d, W.e, W.f, W.bn, W.bm, W.nn, W.nm⟩, t1 _, t2 _, fun k z => (nomatch z), fun k z => (nomatch z)⟩
  · exact fin _ _ ix_finish pu4 fun h4 l q => good h4 _ l q ⟨_, _, _, _, _, _, bs, ns, _, _, rfl, ⟨W.a, W.b, W.c, W.d, W'.e, W.f, W.bn, W.bm, W.nn, W.nm⟩, t1 _, t2 _, fun k z => (nomatch z), fun k z => (nomatch z)⟩
  · exact fin _ _ ix_counts pu5 fun h4 l q => good h4 _ l q ⟨_, _, _, _, _, _, bs, ns, _, _, rfl, ⟨W.a, W.b, W.c, W.d, W.e, W'.f, W.bn, W.bm, W.nn, W.nm⟩, t1 _, t2 _, fun k z => (nomatch z), fun k z => (nomatch z)⟩
  · exact fin _ _ ix_bars pu6 fun h4 l q => good h4 _ l q ⟨_, _, _, _, _, _, bs', ns, _, _, rfl, ⟨W.a, W.b, W.c, W.d, W.e, W.f, W'.bn, W'.bm, W.nn, W.nm⟩, s1 _ q, t2 _, fun k z => (by cases z; rfl), fun k z => (nomatch z)⟩
  · exact fin _ _ ix_notes pu7 fun h4 l q => good h4 _ l q ⟨_, _, _, _, _, _, bs, ns', _, _, rfl, ⟨W.a, W.b, W.c, W.d, W.e, W.f, W.bn, W.bm, W'.nn, W'.nm⟩, t1 _, s2 _ q, fun k z => (nomatch z), fun k z => (by cases z; rfl)⟩
end W_whilemerged_k02_books_made
namespace W_whilemerged_k02_books_made
open PySem PySem.Spec PyProof.Rows L2 CM
theorem eqvAll_strs : ∀ ws ws' : List Str, PyData.eqvAll (ws.map PyData.str) (ws'.map PyData.str) = decide (ws = ws')
  | [], [] => rfl
  | [], _ :: _ => rfl
  | _ :: _, [] => rfl
  | a :: l, b :: l' => by
    simp only [List.map_cons, PyData.eqvAll, PyData.eqv, eqvAll_strs l l', List.cons.injEq, Bool.decide_and]
    by_cases h : a = b
    · simp [h]
    · simp [h]
theorem eqvAll_app : ∀ (a a' b b' : List PyData), a.length = a'.length → PyData.eqvAll (a ++ b) (a' ++ b') = (PyData.eqvAll a a' && PyData.eqvAll b b')
  | [], [], b, b', _ => by simp [PyData.eqvAll]
  | [], _ :: _, _, _, h => by simp at h
  | _ :: _, [], _, _, h => by simp at h
  | x :: a, y :: a', b, b', h => by
    simp only [List.cons_append, PyData.eqvAll, eqvAll_app a a' b b' (by simpa using h), Bool.and_assoc]
theorem eq_tupS2 {neg : Bool} {h : CH} (ws ws' : List Str) (ok : Layd ws) (ok' : Layd ws') : fEq neg (.tup (stL ws)) (.tup (stL ws')) h = .ok (.bl (bneg neg (decide (ws = ws')))) h := by
  have e1 : ∀ ws : List Str, toP h 10 (.tup (ws.map D.str)) = some (.tuple (ws.map PyData.str)) := fun ws => by
    show ((ws.map D.str).mapM (toP h 9)).map PyData.tuple = _
    rw [toP_strs (h := h) (k := 8) ws]
    rfl
  have e5 : scalD (.tup (ws.map D.str)) (.tup (ws'.map D.str)) = false := rfl
  unfold fEq
  rw [e5, e1, e1]
  simp [shapedT_strs ws ok, shapedT_strs ws' ok', PyData.eqv, eqvAll_strs]
theorem Wd.layd {a b c d e f : Str} {bs ns : List Str} (W : Wd a b c d e f bs ns) : Layd [a, b, c, d, e, f] ∧ Layd bs ∧ Layd ns := by
  refine ⟨fun x hx => layW x ?_, fun x hx => layB x (W.bm x hx), fun x hx => layN x (W.nm x hx)⟩
  simp only [List.mem_append]
  simp only [List.mem_cons, List.not_mem_nil, or_false] at hx
  rcases hx with rfl | rfl | rfl | rfl | rfl | rfl
  · simp [W.a]
  · simp [W.b]
  · simp [W.c]
  · simp [W.d]
  · simp [W.e]
  · simp [W.f]
abbrev nfT : Tg → Bool := fun t => decide (t ∈ [.b "NoneType", .b "bool", .b "int", .b "str", .b "list", .b "tuple", .b "dict", .o 0])
theorem isi_book {h : CH} {ws bs ns : List Str} : fIsi [0] (ktT [[.o 0]] tys) [bookD ws bs ns, .cls 0] h = .ok (.bl true) h := by kernel_rfl
theorem eqStr {h : CH} {x : Str} : fEq true (.str x) (.str x) h = .ok (.bl false) h := by simp [fEq, scalD, flatD, eqF, bneg]
/-- == and != of books -/
theorem own_gen {h : CH} {neg : Bool} {a b c d e f a' b' c' d' e' f' : Str} {bs ns bs' ns' : List Str} (W : Wd a b c d e f bs ns) (W' : Wd a' b' c' d' e' f' bs' ns') :
    fOwn 0 nfT [0] neg F_Book_eq (bookD [a, b, c, d, e, f] bs ns) (bookD [a', b', c', d', e', f'] bs' ns') h = .ok (.bl (decide ([a, b, c, d, e, f] = [a', b', c', d', e', f'] ∧ bs = bs' ∧ ns = ns') != neg)) h := by
  obtain ⟨y1, y2, y3⟩ := W.layd
  obtain ⟨z1, z2, z3⟩ := W'.layd
  have e1 : F_Book_eq [bookD [a, b, c, d, e, f] bs ns, bookD [a', b', c', d', e', f'] bs' ns'] h = .ok (.bl (decide ([a, b, c, d, e, f] = [a', b', c', d', e', f'] ∧ bs = bs' ∧ ns = ns'))) h := by
    have t1 := eq_tupS2 (neg := false) (h := h) _ _ y1 z1
    have t2 := eq_tupS2 (neg := false) (h := h) _ _ y2 z2
    have t3 := eq_tupS2 (neg := false) (h := h) _ _ y3 z3
    unfold F_Book_eq bodyF
    show (u_Book_eq [some (bookD [a, b, c, d, e, f] bs ns), some (bookD [a', b', c', d', e', f'] bs' ns')] h).res = _
    unfold u_Book_eq
    generalize [a, b, c, d, e, f] = ws at *
    generalize [a', b', c', d', e', f'] = ws' at *
    have b1 : ∀ x : Bool, bneg false x = x := fun x => rfl
    simp only [s_seq, s_if, e_not, e_B, e_CB, e_cons, e_nil, e_var, e_C, bind_ok, isi_book, asB_bl, toS_ok, Bool.not_true, Bool.false_eq_true, if_false, s_next, sbind_nx, s_ret, e_andV, e_op, e_un, fl_words, fl_bars, fl_notes, t1, t2, t3, b1, List.getElem?_cons_zero, List.getElem?_cons_succ]
    by_cases h1 : ws = ws'
    · by_cases h2 : bs = bs'
      · simp [h1, h2]
      · simp [h1, h2]
    · simp [h1]
  unfold fOwn
  have e2 : tgOf h (bookD [a', b', c', d', e', f'] bs' ns') = some (.o 0) := rfl
  have e3 : nfT (.o 0) = true := by decide
  have e4 : okTg [0] (.o 0) = true := by decide
  simp only [obj_book, e2]
  rw [if_pos ⟨trivial, e3, e4⟩, e1]
  rfl
theorem shaped_row {ws bs ns : List Str} (o1 : Layd ws) (o2 : Layd bs) (o3 : Layd ns) : SeqAt.shaped (rowP ws [bs, ns]) = true := by
  have la : ∀ l l' : List PyData, PyData.canLayAll0 l = true → PyData.canLayAll0 l' = true → PyData.canLayAll0 (l ++ l') = true := by
    intro l
    induction l with
    | nil => intro l' _ h; exact h
    | cons p l ih =>
      intro l' h1 h2
      simp only [PyData.canLayAll0, Bool.and_eq_true] at h1
      simp only [List.cons_append, PyData.canLayAll0, Bool.and_eq_true]
      exact ⟨h1.1, ih l' h1.2 h2⟩
  have da : ∀ l l' : List PyData, PyData.depthAll (l ++ l') = max (PyData.depthAll l) (PyData.depthAll l') := by
    intro l
    induction l with
    | nil => intro l'; simp [PyData.depthAll]
    | cons p l ih =>
      intro l'
      simp only [List.cons_append, PyData.depthAll, ih]
      omega
  have y1 : PyData.canLayAll0 (ws.map PyData.str ++ [bs, ns].map fun t => PyData.tuple (t.map PyData.str)) = true := by
    refine la _ _ (lay_strs ws o1) ?_
    simp only [List.map_cons, List.map_nil, PyData.canLayAll0, PyData.canLay0, lay_strs bs o2, lay_strs ns o3, Bool.and_self]
  have y2 : PyData.depthAll (ws.map PyData.str ++ [bs, ns].map fun t => PyData.tuple (t.map PyData.str)) = 1 := by
    rw [da]
    simp [PyData.depthAll, PyData.depth, dep_strs]
  simp only [rowP, SeqAt.shaped, PyData.canLay0, y1, PyData.depth, y2, Bool.true_and]
  decide
/-- the lists of the fields that are due -/
theorem due_eq {h : CH} {a b c d e f a' b' c' d' e' f' : Str} {bs ns bs' ns' : List Str} (W : Wd a b c d e f bs ns) (W' : Wd a' b' c' d' e' f' bs' ns') :
    fEq false (rowD [a, b, c, d, e, f] [bs, ns]) (rowD [a', b', c', d', e', f'] [bs', ns']) h = .ok (.bl (decide ([a, b, c, d, e, f] = [a', b', c', d', e', f'] ∧ bs = bs' ∧ ns = ns'))) h := by
  obtain ⟨y1, y2, y3⟩ := W.layd
  obtain ⟨z1, z2, z3⟩ := W'.layd
  have e5 : scalD (rowD [a, b, c, d, e, f] [bs, ns]) (rowD [a', b', c', d', e', f'] [bs', ns']) = false := rfl
  unfold fEq
  rw [e5, row_toP (k := 7), row_toP (k := 7)]
  have q : PyData.eqv (rowP [a, b, c, d, e, f] [bs, ns]) (rowP [a', b', c', d', e', f'] [bs', ns']) = decide ([a, b, c, d, e, f] = [a', b', c', d', e', f'] ∧ bs = bs' ∧ ns = ns') := by
    unfold rowP
    rw [PyData.eqv, eqvAll_app _ _ _ _ (by simp), eqvAll_strs]
    simp only [List.map_cons, List.map_nil, PyData.eqvAll, PyData.eqv, eqvAll_strs, Bool.and_true, Bool.decide_and]
  simp only [Bool.false_eq_true, if_false]
  rw [if_pos ⟨shaped_row y1 y2 y3, shaped_row z1 z2 z3⟩, q]
  rfl
theorem draw_kp {r w n : Nat} {h h1 : CH} (A : CM.DrawOk r w n h) (k : Kp h h1) : CM.DrawOk r w n h1 := A.keep k.nx fun j hj => k.ob j (by have := A.lt; rcases hj with rfl | rfl <;> omega)
theorem row_ok {h : CH} {a b c d e f : Str} {bs ns : List Str} (W : Wd a b c d e f bs ns) : fRepr [rowD [a, b, c, d, e, f] [bs, ns]] h = .ok (.str (rowP [a, b, c, d, e, f] [bs, ns]).shown) h := by
  have lb : bs.length ≤ 5 := List.Nodup.length_le_of_subset W.bn (fun x hx => W.bm x hx)
  have ln : ns.length ≤ 3 := List.Nodup.length_le_of_subset W.nn (fun x hx => W.nm x hx)
  refine row_repr _ _ (by decide : 6 ≤ 100) (by decide : 2 ≤ 100) (fun x hx => shortW x ?_) fun t ht => ?_
  · simp only [List.mem_append]
    simp only [List.mem_cons, List.not_mem_nil, or_false] at hx
    rcases hx with rfl | rfl | rfl | rfl | rfl | rfl
    · simp [W.a]
    · simp [W.b]
    · simp [W.c]
    · simp [W.d]
    · simp [W.e]
    · simp [W.f]
  · simp only [List.mem_cons, List.not_mem_nil, or_false] at ht
    rcases ht with rfl | rfl
    · exact ⟨by omega, fun x hx => shortW x (by simp only [List.mem_append]; simp [W.bm x hx])⟩
    · exact ⟨by omega, fun x hx => shortW x (by simp only [List.mem_append]; simp [W.nm x hx])⟩
/-- == and != with a value that is no book -/
theorem own_no {h : CH} {neg : Bool} {ws bs ns : List Str} {x : D} {t : Tg} (e2 : tgOf h x = some t) (e3 : nfT t = true) (e4 : okTg [0] t = true) (e5 : fIsi [0] (ktT [[.o 0]] tys) [x, .cls 0] h = .ok (.bl false) h) :
    fOwn 0 nfT [0] neg F_Book_eq (bookD ws bs ns) x h = .ok (.bl (false != neg)) h := by
  have e1 : F_Book_eq [bookD ws bs ns, x] h = .ok (.bl false) h := by
    unfold F_Book_eq bodyF
    show (u_Book_eq [some (bookD ws bs ns), some x] h).res = _
    unfold u_Book_eq
    simp only [s_seq, s_if, e_not, e_B, e_CB, e_cons, e_nil, e_var, e_C, bind_ok, e5, asB_bl, toS_ok, Bool.not_false, if_true, s_ret, sbind_rt, res_rt, List.getElem?_cons_zero, List.getElem?_cons_succ]
  unfold fOwn
  simp only [obj_book, e2]
  rw [if_pos ⟨trivial, e3, e4⟩, e1]
  rfl
end W_whilemerged_k02_books_made
namespace W_whilemerged_k02_books_made
open PySem PySem.Spec PyProof.Rows L2 CM
def turn_0 : SD := dAsg (dCall 1 F__law_all_words (dCons (dVar 1) (dNil))) (gdName 3)
def turn_1 : SD := dPar 4 5 (dCons (dCall 1 F__law_made (dCons (dVar 3) (dNil))) (dCons (dCall 1 F__law_due (dCons (dVar 3) (dNil))) (dNil)))
def turn_2 : SD := dAsg (dCB (fDctOf true) (dCons (dVar 3) (dNil))) (gdName 6)
def turn_3 : SD := dAsg (dTup (dCons (dCB fTupOf (dCons (dUn (fRev false) (dOp fIx (dVar 3) (dC (.str "bars")))) (dNil))) (dCons (dCB fTupOf (dCons (dUn (fRev false) (dOp fIx (dVar 3) (dC (.str "notes")))) (dNil))) (dNil)))) (gdTup 2 (gdCons (gdSub (dVar 6) (dC (.str "bars"))) (gdCons (gdSub (dVar 6) (dC (.str "notes"))) (gdNil))))
def turn_4 : SD := dDrop (dBM "list" fAppend (dOp fIx (dVar 3) (dC (.str "bars"))) (dCons (dC .non) (dNil)))
def turn_5 : SD := dDrop (dBM0 "list" fClear (dOp fIx (dVar 3) (dC (.str "notes"))))
def turn_6 : SD := dIfS (dOr (dB (dOp (fEq true) (dCB fRepr (dCons (dCall 1 F__law_all_fields (dCons (dVar 4) (dNil))) (dNil))) (dCB fRepr (dCons (dVar 5) (dNil))))) (dOr (dNot (dB (dOp (fOwn 0 (fun t => decide (t ∈ [.b "NoneType", .b "bool", .b "int", .b "str", .b "list", .b "tuple", .b "dict", .o 0])) [0] false F_Book_eq) (dVar 4) (dCall 1 F__law_made (dCons (dVar 6) (dNil)))))) (dB (dOp (fOwn 0 (fun t => decide (t ∈ [.b "NoneType", .b "bool", .b "int", .b "str", .b "list", .b "tuple", .b "dict", .o 0])) [0] true F_Book_eq) (dVar 4) (dCall 1 F__law_made (dCons (dVar 6) (dNil))))))) (dRet (dC (.bl false))) (dNext)
def turn_7 : SD := dAsg (dCall 2 F__law_near (dCons (dVar 1) (dCons (dVar 6) (dNil)))) (gdName 7)
def turn_8 : SD := dAsg (dOp (fEq false) (dVar 5) (dCall 1 F__law_due (dCons (dVar 7) (dNil)))) (gdName 8)
def turn_9 : SD := dIfS (dOr (dB (dOp (fEq true) (dOp (fOwn 0 (fun t => decide (t ∈ [.b "NoneType", .b "bool", .b "int", .b "str", .b "list", .b "tuple", .b "dict", .o 0])) [0] false F_Book_eq) (dVar 4) (dCall 1 F__law_made (dCons (dVar 7) (dNil)))) (dVar 8))) (dB (dOp (fEq false) (dOp (fOwn 0 (fun t => decide (t ∈ [.b "NoneType", .b "bool", .b "int", .b "str", .b "list", .b "tuple", .b "dict", .o 0])) [0] true F_Book_eq) (dVar 4) (dCall 1 F__law_made (dCons (dVar 7) (dNil)))) (dVar 8)))) (dRet (dC (.bl false))) (dNext)
def turn_10 : SD := dFor (dSeqI (dLst false (dCons (dC .non) (dCons (dVar 5) (dCons (dCB fRepr (dCons (dVar 5) (dNil))) (dCons (dC (.int 0)) (dCons (dTup (dNil)) (dCons (dProp 0 F_Book_bars (dVar 4)) (dNil))))))))) (gdName 9) (dIfS (dOr (dB (dOp (fOwn 0 (fun t => decide (t ∈ [.b "NoneType", .b "bool", .b "int", .b "str", .b "list", .b "tuple", .b "dict", .o 0])) [0] false F_Book_eq) (dVar 4) (dVar 9))) (dNot (dB (dOp (fOwn 0 (fun t => decide (t ∈ [.b "NoneType", .b "bool", .b "int", .b "str", .b "list", .b "tuple", .b "dict", .o 0])) [0] true F_Book_eq) (dVar 4) (dVar 9))))) (dRet (dC (.bl false))) (dNext))
def turn_11 : SD := dAsg (dLst false (dCons (dMakeN 0 true 1 0 ([.p 0, .c (.str "one"), .c (.str "one"), .c (.str "plain"), .c (.str "now"), .c (.str "one"), .c (.str "last"), .c (.tup []), .c (.tup [])]) F_Book_init (dNil) (dNil)) (dCons (dMakeN 0 true 1 1 ([.p 0, .k 0, .c (.str "one"), .c (.str "plain"), .c (.str "now"), .c (.str "one"), .c (.str "last"), .c (.tup []), .c (.tup [])]) F_Book_init (dNil) (dCons (dOp fIx (dVar 6) (dC (.str "up"))) (dNil))) (dCons (dMakeN 0 true 1 1 ([.p 0, .c (.str "one"), .c (.str "one"), .c (.str "plain"), .c (.str "now"), .c (.str "one"), .c (.str "last"), .k 0, .c (.tup [])]) F_Book_init (dNil) (dCons (dOp fIx (dVar 6) (dC (.str "bars"))) (dNil))) (dCons (dMakeN 0 true 1 2 ([.p 0, .c (.str "one"), .c (.str "one"), .c (.str "plain"), .c (.str "now"), .c (.str "one"), .k 0, .c (.tup []), .k 1]) F_Book_init (dNil) (dCons (dOp fIx (dVar 6) (dC (.str "counts"))) (dCons (dOp fIx (dVar 6) (dC (.str "notes"))) (dNil)))) (dNil)))))) (gdName 10)
def turn_12 : SD := dAsg (dLst false (dCons (dC (.str "one")) (dCons (dC (.str "one")) (dCons (dC (.str "plain")) (dCons (dC (.str "now")) (dCons (dC (.str "one")) (dCons (dC (.str "last")) (dCons (dTup (dNil)) (dCons (dTup (dNil)) (dNil)))))))))) (gdName 11)
def turn_13 : SD := dAsg (dLst false (dCons (dVar 11) (dCons (dOp (fAdd false) (dLst false (dCons (dOp fIx (dVar 5) (dC (.int 0))) (dNil))) (dSl false (dVar 11) (dPart (dC (.int 1))) (dNoPart))) (dCons (dOp (fAdd false) (dSl false (dVar 11) (dNoPart) (dPart (dC (.int 6)))) (dLst false (dCons (dOp fIx (dVar 5) (dC (.int 6))) (dCons (dTup (dNil)) (dNil))))) (dCons (dOp (fAdd false) (dSl false (dVar 11) (dNoPart) (dPart (dC (.int 5)))) (dLst false (dCons (dOp fIx (dVar 5) (dC (.int 5))) (dCons (dTup (dNil)) (dCons (dOp fIx (dVar 5) (dC (.int 7))) (dNil)))))) (dNil)))))) (gdName 12)
def turn_14 : SD := dIfS (dB (dOp (fEq true) (dCB fRepr (dCons (dLc false (dSeqI (dVar 10)) (gdName 13) (dYes) (dCall 1 F__law_all_fields (dCons (dVar 13) (dNil))) [13]) (dNil))) (dCB fRepr (dCons (dVar 12) (dNil))))) (dRet (dC (.bl false))) (dNext)
def turn_15 : SD := dAsg (dCall 1 F__law_odd (dCons (dVar 1) (dNil))) (gdName 14)
def turn_16 : SD := dAsg (dLst false (dCons (dCall 1 F_is_kind (dCons (dVar 14) (dNil))) (dCons (dCallN 0 1 ([.k 0]) F_is_kind (dNil) (dCons (dC (.str "up")) (dNil))) (dCons (dCall 1 F_is_kind (dCons (dC (.str "down")) (dNil))) (dCons (dCall 1 F_is_kind (dCons (dLst false (dCons (dC (.str "up")) (dNil))) (dNil))) (dCons (dCall 1 F_is_kind (dCons (dVar 4) (dNil))) (dNil))))))) (gdName 3)
def turn_17 : SD := dIfS (dB (dOp (fEq true) (dCB fRepr (dCons (dVar 3) (dNil))) (dCB fRepr (dCons (dLst false (dCons (dAndV (dCB (fIsi [0] (ktT [[.o 0]] tys)) (dCons (dVar 14) (dCons (dC (.ty "str")) (dNil)))) (dOp (fIn false) (dVar 14) (dTup (dCons (dC (.str "up")) (dCons (dC (.str "down")) (dNil)))))) (dCons (dC (.bl true)) (dCons (dC (.bl true)) (dCons (dC (.bl false)) (dCons (dC (.bl false)) (dNil))))))) (dNil))))) (dRet (dC (.bl false))) (dNext)
def turn_k17 : SD := turn_17
def turn_k16 : SD := dSeq turn_16 turn_k17
def turn_k15 : SD := dSeq turn_15 turn_k16
def turn_k14 : SD := dSeq turn_14 turn_k15
def turn_k13 : SD := dSeq turn_13 turn_k14
def turn_k12 : SD := dSeq turn_12 turn_k13
def turn_k11 : SD := dSeq turn_11 turn_k12
def turn_k10 : SD := dSeq turn_10 turn_k11
def turn_k9 : SD := dSeq turn_9 turn_k10
def turn_k8 : SD := dSeq turn_8 turn_k9
def turn_k7 : SD := dSeq turn_7 turn_k8
def turn_k6 : SD := dSeq turn_6 turn_k7
def turn_k5 : SD := dSeq turn_5 turn_k6
def turn_k4 : SD := dSeq turn_4 turn_k5
def turn_k3 : SD := dSeq turn_3 turn_k4
def turn_k2 : SD := dSeq turn_2 turn_k3
def turn_k1 : SD := dSeq turn_1 turn_k2
def turn_k0 : SD := dSeq turn_0 turn_k1
/-- behind a turn -/
def TurnN (r w n : Nat) (x0 : Option D) (ρ : DE) (h : CH) : Prop :=
  ∃ (x2 x3 x4 x5 x6 x7 x8 x9 x10 x11 x12 x13 x14 : Option D), ρ = [x0, some (.ref r), x2, x3, x4, x5, x6, x7, x8, x9, x10, x11, x12, x13, x14] ∧ CM.DrawOk r w n h
theorem put_ob_ne {h : CH} {k j : Nat} {o : MO} (n : j ≠ k) : (h.put k o).ob j = h.ob j := put_ne n
theorem stL_rev (l : List Str) : (stL l).reverse = stL l.reverse := by simp [stL, List.map_reverse]
theorem part1 {r w n : Nat} {h : CH} {x0 x2 x3 x4 x5 x6 x7 x8 x9 x10 x11 x12 x13 x14 : Option D} (A : CM.DrawOk r w (n + 100) h) {T : D → CH → Prop} {N : DE → CH → Prop}
    (k : ∀ (h' : CH) (a b c d e f : Str) (bs ns : List Str) (y3 : Option D) (kt : Nat), Wd a b c d e f bs ns → h'.ob kt = some (.dct (w8S a b c d e f (.tup (stL bs.reverse)) (.tup (stL ns.reverse)))) → kt < h'.nx → kt ≠ r → kt ≠ w → CM.DrawOk r w (n + 60) h' →
      (turn_k6 [x0, some (.ref r), x2, y3, some (bookD [a, b, c, d, e, f] (sortS bs) (sortS ns)), some (rowD [a, b, c, d, e, f] [sortS bs, sortS ns]), some (.ref kt), x7, x8, x9, x10, x11, x12, x13, x14] h').sat N T) :
    (turn_k0 [x0, some (.ref r), x2, x3, x4, x5, x6, x7, x8, x9, x10, x11, x12, x13, x14] h).sat N T := by
  have rw0 := A.lt
  show (dSeq turn_0 turn_k1 _ h).sat _ _
  unfold turn_0
  rw [s_seq, sat_bindS]
  simp
  refine (all_words_sat (n := n + 70) A).mono ?_
  rintro _ h1 ⟨a, b, c, d, e, f, bs, ns, k1, k2, rfl, W, o1, o2, g1, g2, g3, g4, g5, A1, g6, g7⟩
  show (dSeq turn_1 turn_k2 _ h1).sat _ _
  unfold turn_1
  rw [s_seq, sat_bindS]
  simp
  have sb : SeqS h1 (.ref k1) bs := .inl ⟨k1, rfl, o1⟩
  have sn : SeqS h1 (.ref k2) ns := .inl ⟨k2, rfl, o2⟩
  refine (madeX_sat W (.inl rfl) sb sn (fun k z => by cases z; exact g3) (fun k z => by cases z; exact g4)).mono ?_
  rintro _ h2 ⟨rfl, kp⟩
  have sb2 := SeqS.kp sb (fun k z => by cases z; exact g3) kp
  have sn2 := SeqS.kp sn (fun k z => by cases z; exact g4) kp
  refine (dueX_sat W (.inl rfl) sb2 sn2).mono ?_
  rintro _ h3 ⟨rfl, rfl⟩
  have A2 := A1.keep kp.nx fun j hj => kp.ob j (by have := A1.lt; rcases hj with rfl | rfl <;> omega)
  have p1 : h3.ob k1 = some (.lst (stL bs)) := (kp.ob k1 g3).trans o1
  have p2 : h3.ob k2 = some (.lst (stL ns)) := (kp.ob k2 g4).trans o2
  have lnx := kp.nx
  show (dSeq turn_2 turn_k3 _ h3).sat _ _
  unfold turn_2
  rw [s_seq, sat_bindS]
  simp [fDctOf, dctOf, mkD]
  generalize hg : h3.new (.dct (w8S a b c d e f (.ref k1) (.ref k2))) = g
  have nwob : ∀ j, j < h3.nx → g.ob j = h3.ob j := fun j hj => by
    rw [← hg]
    show (if j = h3.nx then _ else _) = _
    rw [if_neg (by omega)]
  have og : g.ob h3.nx = some (.dct (w8S a b c d e f (.ref k1) (.ref k2))) := by
    rw [← hg]
    show (if h3.nx = h3.nx then _ else _) = _
    rw [if_pos rfl]
  have gnx : g.nx = h3.nx + 1 := by rw [← hg]; rfl
  have rw1 := A2.lt
  have A3 : DrawOk r w (n + 70) g := A2.keep (by omega) fun j hj => nwob j (by rcases hj with rfl | rfl <;> omega)
  have q1 : g.ob k1 = some (.lst (stL bs)) := (nwob k1 (by omega)).trans p1
  have q2 : g.ob k2 = some (.lst (stL ns)) := (nwob k2 (by omega)).trans p2
  show (dSeq turn_3 turn_k4 _ g).sat _ _
  unfold turn_3
  rw [s_seq, sat_bindS]
  have f1 : fRev false (.ref k1) g = .ok (.lst (stL bs.reverse)) g := by simp only [fRev, lstOf, q1, mkL, stL_rev]
  have f2 : fRev false (.ref k2) g = .ok (.lst (stL ns.reverse)) g := by simp only [fRev, lstOf, q2, mkL, stL_rev]
  have t1 : ∀ l : List Str, fTupOf [.lst (stL l)] g = .ok (.tup (stL l)) g := fun l => rfl
  have z2 : ([D.tup (stL bs.reverse), D.tup (stL ns.reverse)] : List D).length ≤ sizeLine := by show 2 ≤ sizeLine; decide
  have s8 : 8 < sizeLine := by decide
  simp only [s_asg, sat_toS, e_tup, e_cons, e_CB, e_un, e_op, e_var, e_C, e_nil, List.getElem?_cons_succ, List.getElem?_cons_zero, bind_ok, sat_bind, sat_ok, ix_bars, ix_notes, f1, f2, t1]
  rw [if_pos z2]
  have og' : (g.put h3.nx (.dct (w8S a b c d e f (.tup (stL bs.reverse)) (.ref k2)))).ob h3.nx = some (.dct (w8S a b c d e f (.tup (stL bs.reverse)) (.ref k2))) := put_same
  simp only [sat_ok, sat_put, gdTup, gdCons, gdNil, gdSub, List.length_cons, List.length_nil, Nat.zero_add, Nat.reduceAdd, if_true, sat_bind, sat_calm, e_var, e_C, List.getElem?_cons_succ, List.getElem?_cons_zero, sat_ok, refOf, og, keyD, s8, pu6, og', pu7, put_put, sat_nx]
  show (turn_k4 _ _).sat _ _
  have nk1 : k1 ≠ h3.nx := by omega
  have nk2 : k2 ≠ h3.nx := by omega
  generalize hg2 : g.put h3.nx (.dct (w8S a b c d e f (.tup (stL bs.reverse)) (.tup (stL ns.reverse)))) = g2
  have og2 : g2.ob h3.nx = some (.dct (w8S a b c d e f (.tup (stL bs.reverse)) (.tup (stL ns.reverse)))) := by rw [← hg2]; exact put_same
  have r1 : g2.ob k1 = some (.lst (stL bs)) := by rw [← hg2, put_ne nk1]; exact q1
  have r2 : g2.ob k2 = some (.lst (stL ns)) := by rw [← hg2, put_ne nk2]; exact q2
  have lb : bs.length ≤ 5 := List.Nodup.length_le_of_subset W.bn (fun x hx => W.bm x hx)
  have A4 : DrawOk r w (n + 70) g2 := A3.keep (by rw [← hg2]; exact Nat.le_refl _) fun j hj => by rw [← hg2, put_ne (by rcases hj with rfl | rfl <;> omega)]
  have g2nx : g2.nx = h3.nx + 1 := by rw [← hg2]; exact gnx
  show (dSeq turn_4 turn_k5 _ g2).sat _ _
  unfold turn_4
  rw [s_seq, sat_bindS]
  have sz : (stL bs).length < sizeLine := by rw [List.length_map]; exact Nat.lt_of_le_of_lt lb (by decide)
  simp [ix_bars, isTy, lstOf, r1, fAppend, sz]
  refine ⟨by simpa using sz, ?_⟩
  generalize hg3 : g2.put k1 (.lst (stL bs ++ [.non])) = g3
  have r3 : g3.ob k2 = some (.lst (stL ns)) := by rw [← hg3, put_ne (fun z => g5 z.symm)]; exact r2
  have og3 : g3.ob h3.nx = some (.dct (w8S a b c d e f (.tup (stL bs.reverse)) (.tup (stL ns.reverse)))) := by rw [← hg3, put_ne (fun z => nk1 z.symm)]; exact og2
  have A5 : DrawOk r w (n + 70) g3 := A4.keep (by rw [← hg3]; exact Nat.le_refl _) fun j hj => by rw [← hg3, put_ne (by rcases hj with rfl | rfl <;> omega)]
  have g3nx : g3.nx = h3.nx + 1 := by rw [← hg3]; exact g2nx
  show (dSeq turn_5 turn_k6 _ g3).sat _ _
  unfold turn_5
  rw [s_seq, sat_bindS]
  have cl : fClear (.ref k2) [] g3 = .ok .non (g3.put k2 (.lst [])) := by simp only [fClear, r3]
  have ity : isTy "list" (.ref k2) g3 = true := by simp [isTy, lstOf, r3]
  simp only [s_drop, sat_toS, e_BM0, e_op, e_var, e_C, List.getElem?_cons_succ, List.getElem?_cons_zero, bind_ok, ix_notes, sat_bind, sat_ok, ity, if_true, cl, sat_nx]
  show (turn_k6 _ _).sat _ _
  refine k _ a b c d e f bs ns _ h3.nx W ?_ (by show h3.nx < g3.nx; omega) (by omega) (by omega) ?_
  · rw [put_ne (fun z => nk2 z.symm)]; exact og3
  · have A6 : DrawOk r w (n + 70) (g3.put k2 (.lst [])) := A5.keep (Nat.le_refl _) fun j hj => put_ne (by rcases hj with rfl | rfl <;> omega)
    exact A6.mono (by omega)
end W_whilemerged_k02_books_made
namespace W_whilemerged_k02_books_made
open PySem PySem.Spec PyProof.Rows L2 CM
theorem Wd.rev {a b c d e f : Str} {bs ns : List Str} (W : Wd a b c d e f bs ns) : Wd a b c d e f bs.reverse ns.reverse :=
  W.sets ((List.reverse_perm bs).nodup_iff.mpr W.bn) (fun x hx => W.bm x (List.mem_reverse.mp hx)) ((List.reverse_perm ns).nodup_iff.mpr W.nn) fun x hx => W.nm x (List.mem_reverse.mp hx)
theorem sort_rev (l : List Str) : sortS l.reverse = sortS l := sortS_same (List.reverse_perm l)
theorem DctS.kp {h h1 : CH} {kt : Nat} {kvs : List (Key × D)} (e : h.ob kt = some (.dct kvs)) (l : kt < h.nx) (k : Kp h h1) : h1.ob kt = some (.dct kvs) := (k.ob kt l).trans e
theorem part2 {r w n kt : Nat} {h : CH} {x0 x2 y3 x7 x8 x9 x10 x11 x12 x13 x14 : Option D} {a b c d e f : Str} {bs ns : List Str} (W : Wd a b c d e f bs ns) (ot : h.ob kt = some (.dct (w8S a b c d e f (.tup (stL bs.reverse)) (.tup (stL ns.reverse))))) (lt : kt < h.nx) (nr : kt ≠ r) (nw : kt ≠ w) (A : CM.DrawOk r w (n + 60) h)
    {T : D → CH → Prop} {N : DE → CH → Prop}
    (k : ∀ (h' : CH) (y7 y8 : Option D), h'.ob kt = some (.dct (w8S a b c d e f (.tup (stL bs.reverse)) (.tup (stL ns.reverse)))) → kt < h'.nx → CM.DrawOk r w (n + 20) h' →
      (turn_k10 [x0, some (.ref r), x2, y3, some (bookD [a, b, c, d, e, f] (sortS bs) (sortS ns)), some (rowD [a, b, c, d, e, f] [sortS bs, sortS ns]), some (.ref kt), y7, y8, x9, x10, x11, x12, x13, x14] h').sat N T) :
    (turn_k6 [x0, some (.ref r), x2, y3, some (bookD [a, b, c, d, e, f] (sortS bs) (sortS ns)), some (rowD [a, b, c, d, e, f] [sortS bs, sortS ns]), some (.ref kt), x7, x8, x9, x10, x11, x12, x13, x14] h).sat N T := by
  have e3 : ∀ hh : CH, fRepr [rowD [a, b, c, d, e, f] [sortS bs, sortS ns]] hh = .ok (.str (rowP [a, b, c, d, e, f] [sortS bs, sortS ns]).shown) hh := fun hh => row_ok W.srt
  have tb : ∀ hh : CH, SeqS hh (.tup (stL bs.reverse)) bs.reverse := fun hh => .inr (.inr rfl)
  have tn : ∀ hh : CH, SeqS hh (.tup (stL ns.reverse)) ns.reverse := fun hh => .inr (.inr rfl)
  have b1 : (true != false) = true := rfl
  have b2 : (true != true) = false := rfl
  show (dSeq turn_6 turn_k7 _ h).sat _ _
  unfold turn_6
  rw [s_seq, sat_bindS]
  simp only [s_if, sat_toS, e_or, e_not, e_B, e_CB, e_cons, e_nil, e_var, e_C, e_op, e_call, sat_bind, sat_ok, asB_bl, fields_eq, List.getElem?_cons_zero, List.getElem?_cons_succ, Bool.not_true, Bool.false_eq_true, if_false, List.length_cons, List.length_nil, if_true, bind_ok, e3, eqStr, Nat.zero_add, Nat.reduceAdd]
  refine (madeX_sat W.rev (.inr ⟨kt, rfl, ot⟩) (tb _) (tn _) (fun k z => (nomatch z)) (fun k z => (nomatch z))).mono ?_
  rintro _ h1 ⟨rfl, kp1⟩
  have ot1 := DctS.kp ot lt kp1
  rw [sort_rev, sort_rev, own_gen W.srt W.srt]
  simp only [decide_true, and_self, b1, sat_ok, sat_bind, asB_bl, Bool.not_true, Bool.false_eq_true, if_false]
  refine (madeX_sat W.rev (.inr ⟨kt, rfl, ot1⟩) (tb _) (tn _) (fun k z => (nomatch z)) (fun k z => (nomatch z))).mono ?_
  rintro _ h2 ⟨rfl, kp2⟩
  have ot2 := DctS.kp ot1 (Nat.lt_of_lt_of_le lt kp1.nx) kp2
  rw [sort_rev, sort_rev, own_gen W.srt W.srt]
  simp only [decide_true, and_self, b2, sat_ok, asB_bl, Bool.false_eq_true, if_false, s_next, sat_nx]
  have lt2 : kt < h2.nx := Nat.lt_of_lt_of_le (Nat.lt_of_lt_of_le lt kp1.nx) kp2.nx
  have A2 : DrawOk r w (n + 60) h2 := draw_kp (draw_kp A kp1) kp2
  show (dSeq turn_7 turn_k8 _ h2).sat _ _
  unfold turn_7
  rw [s_seq, sat_bindS]
  simp only [s_asg, sat_toS, e_call, e_cons, e_var, e_nil, sat_bind, sat_ok, List.getElem?_cons_zero, List.getElem?_cons_succ, List.length_cons, List.length_nil, Nat.zero_add, Nat.reduceAdd, if_true, bind_ok]
  refine (near_sat (n := n + 29) A2 W.rev ot2 lt2 nr nw).mono ?_
  rintro z h3 ⟨a', b', c', d', e', f', bs', ns', X, Y, rfl, W', sx, sy, lx, ly, A3, nx3, fr3⟩
  have ot3 := (fr3 kt lt2 nr nw).trans ot2
  have lt3 : kt < h3.nx := Nat.lt_of_lt_of_le lt2 nx3
  simp only [g_name, sat_put, sat_ok, sat_nx, List.set_cons_succ, List.set_cons_zero]
  show (dSeq turn_8 turn_k9 _ h3).sat _ _
  unfold turn_8
  rw [s_seq, sat_bindS]
  simp only [s_asg, sat_toS, e_op, e_call, e_cons, e_var, e_nil, sat_bind, sat_ok, List.getElem?_cons_zero, List.getElem?_cons_succ, List.length_cons, List.length_nil, Nat.zero_add, Nat.reduceAdd, if_true, bind_ok]
  refine (dueX_sat W' (.inl rfl) sx sy).mono ?_
  rintro _ h4 ⟨rfl, rfl⟩
  obtain ⟨q, hq⟩ : ∃ q, decide ([a, b, c, d, e, f] = [a', b', c', d', e', f'] ∧ sortS bs = sortS bs' ∧ sortS ns = sortS ns') = q := ⟨_, rfl⟩
  rw [due_eq W.srt W'.srt, hq]
  simp only [g_name, sat_put, sat_ok, sat_nx, List.set_cons_succ, List.set_cons_zero]
  show (dSeq turn_9 turn_k10 _ h4).sat _ _
  unfold turn_9
  rw [s_seq, sat_bindS]
  simp only [s_if, sat_toS, e_or, e_not, e_B, e_CB, e_cons, e_nil, e_var, e_C, e_op, e_call, sat_bind, sat_ok, List.getElem?_cons_zero, List.getElem?_cons_succ, List.length_cons, List.length_nil, if_true, bind_ok, Nat.zero_add, Nat.reduceAdd]
  refine (madeX_sat W' (.inl rfl) sx sy lx ly).mono ?_
  rintro _ h5 ⟨rfl, kp5⟩
  rw [own_gen W.srt W'.srt, hq]
  have c1 : ∀ (hh : CH), fEq true (.bl (q != false)) (.bl q) hh = .ok (.bl false) hh := fun hh => by cases q <;> rfl
  have c2 : ∀ (hh : CH), fEq false (.bl (q != true)) (.bl q) hh = .ok (.bl false) hh := fun hh => by cases q <;> rfl
  simp only [sat_ok, sat_bind, c1, asB_bl, Bool.false_eq_true, if_false]
  refine (madeX_sat W' (.inl rfl) (SeqS.kp sx lx kp5) (SeqS.kp sy ly kp5) (fun k z => Nat.lt_of_lt_of_le (lx k z) kp5.nx) (fun k z => Nat.lt_of_lt_of_le (ly k z) kp5.nx)).mono ?_
  rintro _ h6 ⟨rfl, kp6⟩
  rw [own_gen W.srt W'.srt, hq]
  simp only [sat_ok, c2, asB_bl, Bool.false_eq_true, if_false, s_next, sat_nx]
  exact k h6 _ _ ((DctS.kp ot3 lt3 (kp5.trans kp6))) (Nat.lt_of_lt_of_le lt3 (kp5.trans kp6).nx) ((draw_kp A3 (kp5.trans kp6)).mono (by omega))
end W_whilemerged_k02_books_made
namespace W_whilemerged_k02_books_made
open PySem PySem.Spec PyProof.Rows L2 CM
def oddA : List D := [.non, .bl true, .bl false, .int (-1), .int 41, .int (10 ^ 30), .str "", .str "up", .str "down", .str "job", .str "a", .tup [], .tup [.int 0], .lst [], .lst [.int 1], .dct [], .dct [(.inl 1, .int 2)]]
def oddB : List D := [.tup [.str "stop"], .tup [.str "cover", .int 0], .lst [.tup [.str "stop"]], .str "both", .str "stop\n", .tup [.int 1, .int 0, .int 0], .int 0, .int 1]
theorem odd_sat {r w n : Nat} {h : CH} (A : DrawOk r w (n + 1) h) : (F__law_odd [.ref r] h).sat fun d h1 => d ∈ oddA ++ oddB ∧ DrawOk r w n h1 ∧ DrFr r w h h1 := by
  unfold F__law_odd bodyF
  rw [sat_res]
  show (u__law_odd [some (.ref r), none] h).sat _ _
  have e : u__law_odd [some (.ref r), none] h = (dRet (dCall 2 F__law_pick (dCons (dVar 0) (dCons (dC (.lst (oddA ++ oddB))) dNil)))) [some (.ref r), some (.lst oddA)] h := by kernel_rfl
  rw [e]
  simp only [s_ret, sat_toS, e_call, e_cons, e_var, e_C, e_nil, sat_bind, sat_ok, List.getElem?_cons_zero, List.getElem?_cons_succ, List.length_cons, List.length_nil, Nat.zero_add, Nat.reduceAdd, if_true, bind_ok, sat_rt]
  exact pick_sat A (.inl rfl) (by decide +kernel) (by decide +kernel)
def kindB : D → Bool
  | .str s => s == "down" || s == "up"
  | _ => false
theorem odd_end {h : CH} {x0 x1 x2 x3 x5 x6 x7 x8 x9 x10 x11 x12 x13 : Option D} {ws bs ns : List Str} {d : D} (hd : d ∈ oddA ++ oddB) :
    turn_k16 [x0, x1, x2, x3, some (bookD ws bs ns), x5, x6, x7, x8, x9, x10, x11, x12, x13, some d] h =
      .nx [x0, x1, x2, some (.lst [.bl (kindB d), .bl true, .bl true, .bl false, .bl false]), some (bookD ws bs ns), x5, x6, x7, x8, x9, x10, x11, x12, x13, some d] h := by
  simp only [oddA, oddB, List.cons_append, List.nil_append, List.mem_cons, List.not_mem_nil, or_false] at hd
  rcases hd with rfl | rfl | rfl | rfl | rfl | rfl | rfl | rfl | rfl | rfl | rfl | rfl | rfl | rfl | rfl | rfl | rfl | rfl | rfl | rfl | rfl | rfl | rfl | rfl | rfl
  all_goals kernel_rfl
theorem make_lem {h : CH} {X Y : D} {a b c d e f : Str} {bs ns : List Str} {l : Nat} {src : List Src} {ts tk : TDs} {ρ : DE} {zs : List D} {Q : D → CH → Prop} (W : Wd a b c d e f bs ns) (e1 : ts ρ h = .ok [] h) (e2 : tk ρ h = .ok zs h) (l1 : zs.length = l)
    (pk : pickD [.ref h.nx] zs src = [.ref h.nx, .str a, .str b, .str c, .str d, .str e, .str f, X, Y]) (sx : SeqS h X bs) (sy : SeqS h Y ns) (lx : ∀ k, X = .ref k → k < h.nx) (ly : ∀ k, Y = .ref k → k < h.nx)
    (k : ∀ h1, Kp h h1 → Q (bookD [a, b, c, d, e, f] (sortS bs) (sortS ns)) h1) : (dMakeN 0 true 1 l src F_Book_init ts tk ρ h).sat Q := by
  show ((ts ρ h).bind _).sat Q
  rw [e1, bind_ok]
  show ((tk ρ h).bind _).sat Q
  rw [e2, bind_ok]
  rw [if_pos ⟨rfl, l1⟩, pk]
  refine (make_sat W sx sy lx ly).mono ?_
  rintro _ h1 ⟨rfl, kp⟩
  exact k h1 kp
end W_whilemerged_k02_books_made
namespace W_whilemerged_k02_books_made
open PySem PySem.Spec PyProof.Rows L2 CM
/-- short data -/
structure Sm (p : PyData) (d c : Nat) : Prop where
  sh : p.showable = true
  dp : p.depth ≤ d
  ln : p.shown.length ≤ c
theorem row_small {h : CH} {a b c d e f : Str} {bs ns : List Str} (W : Wd a b c d e f bs ns) : Sm (rowP [a, b, c, d, e, f] [bs, ns]) 59 4000 := by
  have q := row_ok (h := CH.emp) W
  have e2 : toP CH.emp 12 (rowD [a, b, c, d, e, f] [bs, ns]) = some (rowP [a, b, c, d, e, f] [bs, ns]) := row_toP (k := 9) _ _
  unfold fRepr at q
  have e1 : seqOf CH.emp (rowD [a, b, c, d, e, f] [bs, ns]) = some ([a, b, c, d, e, f].map D.str ++ [bs, ns].map fun t => .tup (t.map D.str)) := rfl
  simp only [e1, e2] at q
  by_cases z : (rowP [a, b, c, d, e, f] [bs, ns]).showable = true ∧ (rowP [a, b, c, d, e, f] [bs, ns]).depth ≤ 60 ∧ (rowP [a, b, c, d, e, f] [bs, ns]).shown.length ≤ sizeLine
  · refine ⟨z.1, ?_, ?_⟩
    · simp [rowP, PyData.depth, PyData.depthAll, dep_strs]
    have lb : bs.length ≤ 5 := List.Nodup.length_le_of_subset W.bn (fun x hx => W.bm x hx)
    have ln : ns.length ≤ 3 := List.Nodup.length_le_of_subset W.nn (fun x hx => W.nm x hx)
    have rp : ∀ x, x ∈ wUP ++ wDOWN ++ wWRITES ++ wMOVES ++ wFINISH ++ wCOUNTS ++ wBARS ++ wNOTES → (reprText x).length ≤ 50 := shortW
    have tl : ∀ t : List Str, t.length ≤ 5 → (∀ x, x ∈ t → (reprText x).length ≤ 50) → (tupleText (t.map reprText)).length ≤ 265 := fun t l q => by
      have a := tupleText_le (t.map reprText)
      have b := sum_le (c := 50) (t.map reprText) (fun y hy => by
        obtain ⟨x, hx, rfl⟩ := List.mem_map.mp hy
        exact q x hx)
      rw [List.length_map] at b
      omega
    have m1 : ∀ x, x ∈ [a, b, c, d, e, f] → (reprText x).length ≤ 50 := fun x hx => rp x (by
      simp only [List.mem_append]
      simp only [List.mem_cons, List.not_mem_nil, or_false] at hx
      rcases hx with rfl | rfl | rfl | rfl | rfl | rfl
      · simp [W.a]
      · simp [W.b]
      · simp [W.c]
      · simp [W.d]
      · simp [W.e]
      · simp [W.f])
    have m2 : ∀ x, x ∈ bs → (reprText x).length ≤ 50 := fun x hx => rp x (by simp only [List.mem_append]; simp [W.bm x hx])
    have m3 : ∀ x, x ∈ ns → (reprText x).length ≤ 50 := fun x hx => rp x (by simp only [List.mem_append]; simp [W.nm x hx])
    have sS : ∀ ws : List Str, PyData.shownAll (ws.map PyData.str) = ws.map reprText := fun ws => by
      rw [shownAll_map, List.map_map]
      exact List.map_congr_left fun x _ => by simp [PyData.shown]
    have e5 : (rowP [a, b, c, d, e, f] [bs, ns]).shown = listText ([a, b, c, d, e, f].map reprText ++ [tupleText (bs.map reprText), tupleText (ns.map reprText)]) := by
      unfold rowP
      rw [PyData.shown, shownAll_map, List.map_append, ← shownAll_map, sS]
      simp only [List.map_cons, List.map_nil, PyData.shown, sS]
    rw [e5]
    have a1 := listText_le ([a, b, c, d, e, f].map reprText ++ [tupleText (bs.map reprText), tupleText (ns.map reprText)])
    have b1 := sum_le (c := 265) ([a, b, c, d, e, f].map reprText ++ [tupleText (bs.map reprText), tupleText (ns.map reprText)]) (fun y hy => by
      rcases List.mem_append.mp hy with hy | hy
      · obtain ⟨x, hx, rfl⟩ := List.mem_map.mp hy
        exact Nat.le_trans (m1 x hx) (by decide)
      · simp only [List.mem_cons, List.not_mem_nil, or_false] at hy
        rcases hy with rfl | rfl
        · exact tl bs lb m2
        · exact tl ns (by omega) m3)
    simp only [List.length_append, List.length_map, List.length_cons, List.length_nil] at b1
    omega
  · rw [if_neg z] at q
    cases q
theorem rows_repr {h : CH} {p1 p2 p3 p4 : PyData} {d1 d2 d3 d4 : D} (e1 : toP h 11 d1 = some p1) (e2 : toP h 11 d2 = some p2) (e3 : toP h 11 d3 = some p3) (e4 : toP h 11 d4 = some p4) (s1 : Sm p1 59 4000) (s2 : Sm p2 59 4000) (s3 : Sm p3 59 4000) (s4 : Sm p4 59 4000) :
    ∃ s, fRepr [.lst [d1, d2, d3, d4]] h = .ok (.str s) h := by
  refine ⟨_, fRepr_ok (xs := [d1, d2, d3, d4]) (p := .list [p1, p2, p3, p4]) rfl ?_ ?_ ?_ ?_⟩
  · show ([d1, d2, d3, d4].mapM (toP h 11)).map PyData.list = _
    simp only [List.mapM_cons, List.mapM_nil, e1, e2, e3, e4, Option.bind_eq_bind, Option.bind_some, Option.pure_def, Option.map_some]
  · show PyData.showableAll [p1, p2, p3, p4] = true
    simp only [PyData.showableAll, s1.sh, s2.sh, s3.sh, s4.sh, Bool.and_self]
  · have := s1.dp; have := s2.dp; have := s3.dp; have := s4.dp
    simp only [PyData.depth, PyData.depthAll]
    omega
  · have a := listText_le [p1.shown, p2.shown, p3.shown, p4.shown]
    have b := sum_le (c := 4000) [p1.shown, p2.shown, p3.shown, p4.shown] (fun t ht => by
      simp only [List.mem_cons, List.not_mem_nil, or_false] at ht
      rcases ht with rfl | rfl | rfl | rfl
      · exact s1.ln
      · exact s2.ln
      · exact s3.ln
      · exact s4.ln)
    simp only [PyData.shown, PyData.shownAll]
    rw [sizeLine_eq]
    simp only [List.length_cons, List.length_nil] at b
    omega
end W_whilemerged_k02_books_made
namespace W_whilemerged_k02_books_made
open PySem PySem.Spec PyProof.Rows L2 CM
def Good (d : D) : Prop := ∀ h : CH, ∃ t, tgOf h d = some t ∧ nfT t = true ∧ okTg [0] t = true ∧ fIsi [0] (ktT [[.o 0]] tys) [d, .cls 0] h = .ok (.bl false) h
theorem things_sat {h : CH} {x0 x1 x2 x3 x5 x6 x7 x8 x9 x10 x11 x12 x13 x14 : Option D} {ws bs ns : List Str} {ds : List D} (g : ∀ d, d ∈ ds → Good d) {N : DE → CH → Prop} {T : D → CH → Prop}
    (k : ∀ y9, N [x0, x1, x2, x3, some (bookD ws bs ns), x5, x6, x7, x8, y9, x10, x11, x12, x13, x14] h) :
    (dForL (gdName 9) (dIfS (dOr (dB (dOp (fOwn 0 nfT [0] false F_Book_eq) (dVar 4) (dVar 9))) (dNot (dB (dOp (fOwn 0 nfT [0] true F_Book_eq) (dVar 4) (dVar 9))))) (dRet (dC (.bl false))) (dNext)) ds [x0, x1, x2, x3, some (bookD ws bs ns), x5, x6, x7, x8, x9, x10, x11, x12, x13, x14] h).sat N T := by
  refine sat_for (I := fun rest ρ h' => h' = h ∧ (∀ d, d ∈ rest → Good d) ∧ ∃ y9, ρ = [x0, x1, x2, x3, some (bookD ws bs ns), x5, x6, x7, x8, y9, x10, x11, x12, x13, x14]) ?_ ⟨rfl, g, x9, rfl⟩ ?_
  · rintro d rest ρ h' ⟨rfl, g, y9, rfl⟩
    obtain ⟨t, e2, e3, e4, e5⟩ := g d (List.mem_cons_self ..) h'
    simp only [g_name, sat_ok, List.set_cons_succ, List.set_cons_zero]
    have b1 : (false != false) = false := rfl
    have b2 : (false != true) = true := rfl
    simp only [s_if, sat_toS, e_or, e_not, e_B, e_op, e_var, List.getElem?_cons_succ, List.getElem?_cons_zero, bind_ok, sat_bind, own_no e2 e3 e4 e5, sat_ok, b1, b2, asB_bl, Bool.false_eq_true, if_false, Bool.not_true, s_next, sat_nx]
    exact ⟨True.intro, fun d hd => g d (List.mem_cons_of_mem _ hd), _, rfl⟩
  · rintro ρ h' ⟨rfl, _, y9, rfl⟩
    exact k y9
theorem good_due {a b c d e f : Str} {bs ns : List Str} : Good (rowD [a, b, c, d, e, f] [bs, ns]) := fun h => ⟨.b "list", rfl, by decide, by decide, by kernel_rfl⟩
theorem good_str {s : Str} : Good (.str s) := fun h => ⟨.b "str", rfl, by decide, by decide, by kernel_rfl⟩
theorem good_tup {ds : List D} : Good (.tup ds) := fun h => ⟨.b "tuple", rfl, by decide, by decide, by kernel_rfl⟩
theorem good_non : Good .non := fun h => ⟨.b "NoneType", rfl, by decide, by decide, by kernel_rfl⟩
theorem good_int {i : Int} : Good (.int i) := fun h => ⟨.b "int", rfl, by decide, by decide, by kernel_rfl⟩
abbrev plainW : List Str := ["one", "one", "plain", "now", "one", "last"]
theorem wPlain : Wd "one" "one" "plain" "now" "one" "last" [] [] := ⟨by decide +kernel, by decide +kernel, by decide +kernel, by decide +kernel, by decide +kernel, by decide +kernel, .nil, fun x hx => (nomatch hx), .nil, fun x hx => (nomatch hx)⟩
theorem part3 {r w n kt : Nat} {h : CH} {x0 x2 x3 x7 x8 x9 x10 x11 x12 x13 x14 : Option D} {a b c d e f : Str} {bs ns : List Str} (W : Wd a b c d e f bs ns) (ot : h.ob kt = some (.dct (w8S a b c d e f (.tup (stL bs.reverse)) (.tup (stL ns.reverse))))) (lt : kt < h.nx) (A : CM.DrawOk r w (n + 20) h) :
    (turn_k10 [x0, some (.ref r), x2, x3, some (bookD [a, b, c, d, e, f] (sortS bs) (sortS ns)), some (rowD [a, b, c, d, e, f] [sortS bs, sortS ns]), some (.ref kt), x7, x8, x9, x10, x11, x12, x13, x14] h).sat (TurnN r w n x0) (fun _ _ => False) := by
  have e3 : ∀ hh : CH, fRepr [rowD [a, b, c, d, e, f] [sortS bs, sortS ns]] hh = .ok (.str (rowP [a, b, c, d, e, f] [sortS bs, sortS ns]).shown) hh := fun hh => row_ok W.srt
  have wP := wPlain
  show (dSeq turn_10 turn_k11 _ h).sat _ _
  rw [s_seq, sat_bindS]
  have pr : ∀ ρ : DE, ρ[4]? = some (some (bookD [a, b, c, d, e, f] (sortS bs) (sortS ns))) → dProp 0 F_Book_bars (dVar 4) ρ h = .ok (.tup (stL (sortS bs))) h := fun ρ e0 => by
    show ((dVar 4 ρ h).bind _) = _
    rw [e_var, e0]
    kernel_rfl
  have z6 : 6 ≤ sizeLine := by decide
  have z0 : 0 ≤ sizeLine := by decide
  unfold turn_10
  rw [s_for, sat_toS, e_seqI, sat_bind]
  simp only [e_lst, e_cons, e_nil, e_C, e_var, e_CB, e_tup, List.getElem?_cons_succ, List.getElem?_cons_zero, bind_ok, e3, pr, List.length_cons, List.length_nil, Nat.zero_add, Nat.reduceAdd, z6, z0, if_true, mkL, sat_ok, itemsD]
  rw [sat_unl]
  refine things_sat (fun d hd => ?_) fun y9 => ?_
  · simp only [List.mem_cons, List.not_mem_nil, or_false] at hd
    rcases hd with rfl | rfl | rfl | rfl | rfl | rfl
    · exact good_non
    · exact good_due
    · exact good_str
    · exact good_int
    · exact good_tup
    · exact good_tup
  show (dSeq turn_11 turn_k12 _ h).sat _ _
  rw [s_seq, sat_bindS]
  unfold turn_11
  have z4 : 4 ≤ sizeLine := by decide
  have up0 : ∀ {hh : CH}, hh.ob kt = some (.dct (w8S a b c d e f (.tup (stL bs.reverse)) (.tup (stL ns.reverse)))) → DctS hh (.ref kt) (w8S a b c d e f (.tup (stL bs.reverse)) (.tup (stL ns.reverse))) := fun e => .inr ⟨kt, rfl, e⟩
  have nilS : ∀ hh : CH, SeqS hh (.tup []) [] := fun hh => .inr (.inr rfl)
  simp only [s_asg, sat_toS, e_lst, e_cons, e_nil, sat_bind]
  refine make_lem (X := .tup []) (Y := .tup []) (zs := []) wP rfl rfl rfl rfl (nilS _) (nilS _) (fun k z => (nomatch z)) (fun k z => (nomatch z)) fun h1 kp1 => ?_
  have ot1 := DctS.kp ot lt kp1
  have lt1 : kt < h1.nx := Nat.lt_of_lt_of_le lt kp1.nx
  have wa : Wd a "one" "plain" "now" "one" "last" [] [] := ⟨W.a, wP.b, wP.c, wP.d, wP.e, wP.f, wP.bn, wP.bm, wP.nn, wP.nm⟩
  refine make_lem (X := .tup []) (Y := .tup []) (zs := [.str a]) wa rfl ?_ rfl rfl (nilS _) (nilS _) (fun k z => (nomatch z)) (fun k z => (nomatch z)) fun h2 kp2 => ?_
  · simp only [e_cons, e_op, e_var, e_C, e_nil, List.getElem?_cons_succ, List.getElem?_cons_zero, bind_ok]
    rw [ixS (up0 ot1), ix_up]
    rfl
  have ot2 := DctS.kp ot1 lt1 kp2
  have lt2 : kt < h2.nx := Nat.lt_of_lt_of_le lt1 kp2.nx
  have wb : Wd "one" "one" "plain" "now" "one" "last" bs.reverse [] := ⟨wP.a, wP.b, wP.c, wP.d, wP.e, wP.f, W.rev.bn, W.rev.bm, wP.nn, wP.nm⟩
  refine make_lem (X := .tup (stL bs.reverse)) (Y := .tup []) (zs := [.tup (stL bs.reverse)]) wb rfl ?_ rfl rfl (.inr (.inr rfl)) (nilS _) (fun k z => (nomatch z)) (fun k z => (nomatch z)) fun h3 kp3 => ?_
  · simp only [e_cons, e_op, e_var, e_C, e_nil, List.getElem?_cons_succ, List.getElem?_cons_zero, bind_ok]
    rw [ixS (up0 ot2), ix_bars]
    rfl
  have ot3 := DctS.kp ot2 lt2 kp3
  have wc : Wd "one" "one" "plain" "now" "one" f [] ns.reverse := ⟨wP.a, wP.b, wP.c, wP.d, wP.e, W.f, wP.bn, wP.bm, W.rev.nn, W.rev.nm⟩
  refine make_lem (X := .tup []) (Y := .tup (stL ns.reverse)) (zs := [.str f, .tup (stL ns.reverse)]) wc rfl ?_ rfl rfl (nilS _) (.inr (.inr rfl)) (fun k z => (nomatch z)) (fun k z => (nomatch z)) fun h4 kp4 => ?_
  · simp only [e_cons, e_op, e_var, e_C, e_nil, List.getElem?_cons_succ, List.getElem?_cons_zero, bind_ok]
    rw [ixS (up0 ot3), ix_counts]
    simp only [bind_ok]
    rw [ixS (up0 ot3), ix_notes]
    rfl
  have A4 : DrawOk r w (n + 20) h4 := draw_kp A (((kp1.trans kp2).trans kp3).trans kp4)
  rw [sort_rev, sort_rev]
  simp only [sat_ok, List.length_cons, List.length_nil, Nat.zero_add, Nat.reduceAdd, z4, if_true, mkL, g_name, sat_put, sat_nx, List.set_cons_succ, List.set_cons_zero]
  have s0 : sortS [] = [] := rfl
  rw [s0]
  -- the rows
  have e12 : ∀ (x7 x8 x9 x11 x12 x13 x14 : Option D) (X : D), turn_k12 [x0, some (.ref r), x2, x3, some (bookD [a, b, c, d, e, f] (sortS bs) (sortS ns)), some (rowD [a, b, c, d, e, f] [sortS bs, sortS ns]), some (.ref kt), x7, x8, x9, some X, x11, x12, x13, x14] h4 =
      turn_k14 [x0, some (.ref r), x2, x3, some (bookD [a, b, c, d, e, f] (sortS bs) (sortS ns)), some (rowD [a, b, c, d, e, f] [sortS bs, sortS ns]), some (.ref kt), x7, x8, x9, some X, some (rowD plainW [[], []]),
        some (.lst [rowD plainW [[], []], rowD [a, "one", "plain", "now", "one", "last"] [[], []], rowD plainW [sortS bs, []], rowD ["one", "one", "plain", "now", "one", f] [[], sortS ns]]), x13, x14] h4 := fun x7 x8 x9 x11 x12 x13 x14 X => by kernel_rfl
  rw [Kont, e12]
  obtain ⟨s, es⟩ := rows_repr (h := h4) (row_toP (k := 8) plainW [[], []]) (row_toP (k := 8) [a, "one", "plain", "now", "one", "last"] [[], []]) (row_toP (k := 8) plainW [sortS bs, []]) (row_toP (k := 8) ["one", "one", "plain", "now", "one", f] [[], sortS ns])
    (row_small (h := h4) wP) (row_small (h := h4) wa) (row_small (h := h4) (⟨wP.a, wP.b, wP.c, wP.d, wP.e, wP.f, W.srt.bn, W.srt.bm, wP.nn, wP.nm⟩ : Wd "one" "one" "plain" "now" "one" "last" (sortS bs) [])) (row_small (h := h4) (⟨wP.a, wP.b, wP.c, wP.d, wP.e, W.f, wP.bn, wP.bm, W.srt.nn, W.srt.nm⟩ : Wd "one" "one" "plain" "now" "one" f [] (sortS ns)))
  show (dSeq turn_14 turn_k15 _ h4).sat _ _
  rw [s_seq, sat_bindS]
  unfold turn_14
  have lc : ∀ ρ : DE, ρ[10]? = some (some (.lst [bookD ["one", "one", "plain", "now", "one", "last"] [] [], bookD [a, "one", "plain", "now", "one", "last"] [] [], bookD ["one", "one", "plain", "now", "one", "last"] (sortS bs) [], bookD ["one", "one", "plain", "now", "one", f] [] (sortS ns)])) → ρ.length = 15 →
      dLc false (dSeqI (dVar 10)) (gdName 13) dYes (dCall 1 F__law_all_fields (dCons (dVar 13) dNil)) [13] ρ h4 = .ok (.lst [rowD plainW [[], []], rowD [a, "one", "plain", "now", "one", "last"] [[], []], rowD plainW [sortS bs, []], rowD ["one", "one", "plain", "now", "one", f] [[], sortS ns]]) h4 := by
    intro ρ e0 e15
    match ρ, e15 with
    | [_, _, _, _, _, _, _, _, _, _, x10, _, _, _, _], _ =>
      cases e0
      kernel_rfl
  simp only [s_if, sat_toS, e_B, e_op, e_CB, e_cons, e_nil, e_var, List.getElem?_cons_succ, List.getElem?_cons_zero, bind_ok, sat_bind]
  rw [lc _ rfl rfl]
  simp only [sat_ok, bind_ok, es, eqStr, asB_bl, Bool.false_eq_true, if_false, s_next, sat_nx]
  show (dSeq turn_15 turn_k16 _ h4).sat _ _
  rw [s_seq, sat_bindS]
  unfold turn_15
  simp only [s_asg, sat_toS, e_call, e_cons, e_var, e_nil, List.getElem?_cons_succ, List.getElem?_cons_zero, bind_ok, sat_bind, sat_ok, List.length_cons, List.length_nil, Nat.zero_add, Nat.reduceAdd, if_true]
  refine (odd_sat (n := n + 19) A4).mono ?_
  rintro d0 h5 ⟨hd, A5, f5⟩
  simp only [g_name, sat_put, sat_ok, sat_nx, List.set_cons_succ, List.set_cons_zero]
  rw [Kont, odd_end hd, sat_nx]
  exact ⟨_, _, _, _, _, _, _, _, _, _, _, _, _, rfl, A5.mono (by omega)⟩
end W_whilemerged_k02_books_made
namespace W_whilemerged_k02_books_made
open PySem PySem.Spec PyProof.Rows L2 CM
def lawEnd : SD := dRet (dOp (fEq false) (dTup (dCons (dC (.tup [.str "cover", .str "lower", .str "open", .str "others", .str "upper"])) (dCons (dC (.tup [.str "again", .str "job", .str "place"])) (dNil)))) (dTup (dCons (dTup (dCons (dC (.str "cover")) (dCons (dC (.str "lower")) (dCons (dC (.str "open")) (dCons (dC (.str "others")) (dCons (dC (.str "upper")) (dNil))))))) (dCons (dTup (dCons (dC (.str "again")) (dCons (dC (.str "job")) (dCons (dC (.str "place")) (dNil))))) (dNil)))))
theorem law_u : u_law = dSeq (dAsg (dCall 1 F__law_begun (dCons (dVar 0) (dNil))) (gdName 1)) (dSeq (dFor (dRng1 (dCons (dOp (fAdd false) (dC (.int 4)) (dCB fMin (dCons (dCB fLen (dCons (dVar 0) (dNil))) (dCons (dC (.int 16)) (dNil))))) (dNil))) (gdName 2) turn_k0) lawEnd) := rfl
theorem end_ok {ρ : DE} {h : CH} : lawEnd ρ h = .rt (.bl true) h := by kernel_rfl
/-- the law -/
theorem law_ok : LawF F_law := by
  intro ns hn
  obtain ⟨h1, e1, A1, n1, _⟩ := begun_ok (h := CH.emp) hn
  have key : (F_law [.scr ns] CH.emp).sat fun d _ => d = .bl true := by
    unfold F_law bodyF
    rw [sat_res]
    show (u_law [some (.scr ns), none, none, none, none, none, none, none, none, none, none, none, none, none, none] CH.emp).sat _ _
    rw [law_u, s_seq, sat_bindS]
    simp only [s_asg, sat_toS, e_call, e_cons, e_nil, e_var, sat_bind, sat_ok, List.getElem?_cons_zero, List.getElem?_cons_succ, List.length_cons, List.length_nil, if_true, e1, g_name, sat_put, sat_nx, List.set_cons_zero, List.set_cons_succ, Nat.zero_add]
    rw [Kont, s_seq, sat_bindS, s_for, sat_toS]
    have ml : (ns.length : Int) ≤ 63 := by omega
    have e2 : fLen [.scr ns] h1 = .ok (.int ns.length) h1 := rfl
    have e3 : fMin [.int ns.length, .int 16] h1 = .ok (.int (if (16 : Int) < ns.length then 16 else ns.length)) h1 := rfl
    have e4 : ∀ j : Int, fAdd false (.int 4) (.int j) h1 = .ok (.int (4 + j)) h1 := fun j => rfl
    have bd : (if (16 : Int) < ns.length then 16 else (ns.length : Int)) ≤ 16 ∧ 0 ≤ (if (16 : Int) < ns.length then 16 else (ns.length : Int)) := by split <;> omega
    generalize hM : (if (16 : Int) < ns.length then 16 else (ns.length : Int)) = M at *
    have bd2 : -(2 ^ 62) ≤ 4 + M ∧ 4 + M < 2 ^ 62 := by omega
    have rg : ∀ ρ' : DE, ρ'[0]? = some (some (.scr ns)) → dRng1 (dCons (dOp (fAdd false) (dC (.int 4)) (dCB fMin (dCons (dCB fLen (dCons (dVar 0) (dNil))) (dCons (dC (.int 16)) (dNil))))) (dNil)) ρ' h1 = .ok (rgD 0 (4 + M).toNat, none) h1 := fun ρ' e0 => by
      simp only [dRng1, e_cons, e_op, e_C, e_CB, e_nil, e_var, e0, bind_ok, e2, e3, e4]
      rw [if_pos bd2]
    rw [rg _ rfl, sat_ok, sat_unlG]
    have hl : (rgD 0 (4 + M).toNat).length ≤ 20 := by
      unfold rgD
      rw [List.length_map, List.length_range]
      omega
    refine sat_for (I := fun rest ρ h' => rest.length ≤ 20 ∧ TurnN (CH.emp.nx + 1) CH.emp.nx (100 * rest.length) (some (.scr ns)) ρ h') ?_ ⟨hl, _, _, _, _, _, _, _, _, _, _, _, _, _, rfl, A1.mono (by show 100 * (rgD 0 (4 + M).toNat).length ≤ 1000000000; omega)⟩ ?_
    · rintro d rest ρ h' ⟨l20, x2, x3, x4, x5, x6, x7, x8, x9, x10, x11, x12, x13, x14, rfl, A'⟩
      simp only [g_name, sat_ok, List.set_cons_zero, List.set_cons_succ]
      have B : DrawOk (CH.emp.nx + 1) CH.emp.nx (100 * rest.length + 100) h' := A'.mono (by simp only [List.length_cons]; omega)
      refine (part1 (n := 100 * rest.length) B (N := TurnN (CH.emp.nx + 1) CH.emp.nx (100 * rest.length) (some (.scr ns))) (T := fun _ _ => False) fun h2 a b c d e f bs nz y3 kt W ot lt nr nw A2 => ?_).mono ?_ fun _ _ z => z.elim
      · exact part2 W ot lt nr nw A2 fun h3 y7 y8 ot3 lt3 A3 => part3 W ot3 lt3 A3
      · intro ρ' h'' q
        exact ⟨by simp only [List.length_cons] at l20; omega, q⟩
    · rintro ρ h5 _
      show Kont _ _ _ ρ h5
      rw [Kont, end_ok, sat_rt]
  obtain ⟨d, h, e, rfl⟩ := key.ex
  exact ⟨h, e⟩
end W_whilemerged_k02_books_made
open PySem PySem.W PyProof.Rows in
set_option maxRecDepth 100000 in
set_option maxHeartbeats 0 in
theorem PySem.Challenge.cw_whilemerged_k02_books_made_holds : PySem.Challenge.rw_whilemerged_k02_books_made.Holds := by
  w_on; o_law; k_head; (case hw => w_witness2)
  k_fill
  refine CM.walkG (l := PySem.Challenge.rw_whilemerged_k02_books_made) (k := 6) (F := W_whilemerged_k02_books_made.F_law) W_whilemerged_k02_books_made.law_ok rfl rfl ⟨rfl, by decide, by decide⟩ (fun w h Y => PySem.W.kIn_of Y) ?F
  case F =>
    intro w mg fa h KX G hmg
    refine' W_whilemerged_k02_books_made.all_mk KX G hmg ?ac0 ?a0 ?l0 ?c0 ?k0 ?a1 ?l1 ?c1 ?k1 ?a2 ?l2 ?c2 ?k2 ?a3 ?l3 ?c3 ?k3 ?a4 ?l4 ?c4 ?k4 ?a5 ?l5 ?c5 ?k5 ?a6 ?l6 ?c6 ?k6 ?a7 ?l7 ?c7 ?k7 ?a8 ?l8 ?c8 ?k8 ?a9 ?l9 ?c9 ?k9 ?a10 ?fn10 ?mk10 ?kc10 ?l10 ?c10 ?k10 ?a11 ?l11 ?c11 ?k11 ?a12 ?l12 ?c12 ?k12 ?a13 ?fn13 ?ne13 ?l13 ?c13 ?k13 ?a14 ?pa14 ?pb14 ?pc14 ?l14 ?c14 ?k14 ?a15 ?l15 ?c15 ?k15 ?a16 ?pa16 ?pb16 ?pc16 ?l16 ?c16 ?k16 ?a17 ?pa17 ?pb17 ?pc17 ?l17 ?c17 ?k17 ?a18 ?pa18 ?pb18 ?pc18 ?l18 ?c18 ?k18 ?a19 ?pa19 ?pb19 ?pc19 ?l19 ?c19 ?k19 ?a20 ?pa20 ?pb20 ?pc20 ?l20 ?c20 ?k20 ?a21 ?pa21 ?pb21 ?pc21 ?l21 ?c21 ?k21 ?a22 ?pa22 ?pb22 ?pc22 ?l22 ?c22 ?k22 ?a23 ?l23 ?c23 ?k23 ?a24 ?l24 ?c24 ?k24 ?d10_up ?d10_down ?d10_writes ?d10_moves ?d10_finish ?d10_bars ?e10_bars ?d10_counts ?d10_notes ?e10_notes ?g_UPS ?h_UPS ?g_DOWNS ?h_DOWNS ?g_WRITES ?h_WRITES ?g_MOVES ?h_MOVES ?g_FINISHES ?h_FINISHES ?g_COUNTS ?h_COUNTS ?g_BARS ?h_BARS ?g_NOTES ?h_NOTES ?g_KINDS ?h_KINDS ?z_abs ?z_int ?z_len ?z_list ?z_dict ?z_isinstance ?z_str ?z_tuple ?z_set ?z_sorted ?z_range ?z_min ?z_repr ?bc0 ?bf0 ?bk ?nb13
    (case ac0 => k_is)
    (case a0 => k_is)
    (case l0 => k_is)
    (case c0 => k_is)
    (case k0 => k_is)
    (case a1 => k_is)
    (case l1 => k_is)
    (case c1 => k_is)
    (case k1 => k_is)
    (case a2 => k_is)
    (case l2 => k_is)
    (case c2 => k_is)
    (case k2 => k_is)
    (case a3 => k_is)
    (case l3 => k_is)
    (case c3 => k_is)
    (case k3 => k_is)
    (case a4 => k_is)
    (case l4 => k_is)
    (case c4 => k_is)
    (case k4 => k_is)
    (case a5 => k_is)
    (case l5 => k_is)
    (case c5 => k_is)
    (case k5 => k_is)
    (case a6 => k_is)
    (case l6 => k_is)
    (case c6 => k_is)
    (case k6 => k_is)
    (case a7 => k_is)
    (case l7 => k_is)
    (case c7 => k_is)
    (case k7 => k_is)
    (case a8 => k_is)
    (case l8 => k_is)
    (case c8 => k_is)
    (case k8 => k_is)
    (case a9 => k_is)
    (case l9 => k_is)
    (case c9 => k_is)
    (case k9 => k_is)
    (case a10 => k_is)
    (case fn10 => k_is)
    (case mk10 => k_is)
    (case kc10 => k_is)
    (case l10 => k_is)
    (case c10 => k_is)
    (case k10 => k_is)
    (case a11 => k_is)
    (case l11 => k_is)
    (case c11 => k_is)
    (case k11 => k_is)
    (case a12 => k_is)
    (case l12 => k_is)
    (case c12 => k_is)
    (case k12 => k_is)
    (case a13 => k_is)
    (case fn13 => k_is)
    (case ne13 => k_is)
    (case l13 => k_is)
    (case c13 => k_is)
    (case k13 => k_is)
    (case a14 => k_is)
    (case pa14 => k_is)
    (case pb14 => k_is)
    (case pc14 => k_is)
    (case l14 => k_is)
    (case c14 => k_is)
    (case k14 => k_is)
    (case a15 => k_is)
    (case l15 => k_is)
    (case c15 => k_is)
    (case k15 => k_is)
    (case a16 => k_is)
    (case pa16 => k_is)
    (case pb16 => k_is)
    (case pc16 => k_is)
    (case l16 => k_is)
    (case c16 => k_is)
    (case k16 => k_is)
    (case a17 => k_is)
    (case pa17 => k_is)
    (case pb17 => k_is)
    (case pc17 => k_is)
    (case l17 => k_is)
    (case c17 => k_is)
    (case k17 => k_is)
    (case a18 => k_is)
    (case pa18 => k_is)
    (case pb18 => k_is)
    (case pc18 => k_is)
    (case l18 => k_is)
    (case c18 => k_is)
    (case k18 => k_is)
    (case a19 => k_is)
    (case pa19 => k_is)
    (case pb19 => k_is)
    (case pc19 => k_is)
    (case l19 => k_is)
    (case c19 => k_is)
    (case k19 => k_is)
    (case a20 => k_is)
    (case pa20 => k_is)
    (case pb20 => k_is)
    (case pc20 => k_is)
    (case l20 => k_is)
    (case c20 => k_is)
    (case k20 => k_is)
    (case a21 => k_is)
    (case pa21 => k_is)
    (case pb21 => k_is)
    (case pc21 => k_is)
    (case l21 => k_is)
    (case c21 => k_is)
    (case k21 => k_is)
    (case a22 => k_is)
    (case pa22 => k_is)
    (case pb22 => k_is)
    (case pc22 => k_is)
    (case l22 => k_is)
    (case c22 => k_is)
    (case k22 => k_is)
    (case a23 => k_is)
    (case l23 => k_is)
    (case c23 => k_is)
    (case k23 => k_is)
    (case a24 => k_is)
    (case l24 => k_is)
    (case c24 => k_is)
    (case k24 => k_is)
    (case d10_up => k_is)
    (case d10_down => k_is)
    (case d10_writes => k_is)
    (case d10_moves => k_is)
    (case d10_finish => k_is)
    (case d10_bars => k_is)
    (case e10_bars => k_is)
    (case d10_counts => k_is)
    (case d10_notes => k_is)
    (case e10_notes => k_is)
    (case g_UPS => k_is)
    (case h_UPS => k_is)
    (case g_DOWNS => k_is)
    (case h_DOWNS => k_is)
    (case g_WRITES => k_is)
    (case h_WRITES => k_is)
    (case g_MOVES => k_is)
    (case h_MOVES => k_is)
    (case g_FINISHES => k_is)
    (case h_FINISHES => k_is)
    (case g_COUNTS => k_is)
    (case h_COUNTS => k_is)
    (case g_BARS => k_is)
    (case h_BARS => k_is)
    (case g_NOTES => k_is)
    (case h_NOTES => k_is)
    (case g_KINDS => k_is)
    (case h_KINDS => k_is)
    (case z_abs => k_is)
    (case z_int => k_is)
    (case z_len => k_is)
    (case z_list => k_is)
    (case z_dict => k_is)
    (case z_isinstance => k_is)
    (case z_str => k_is)
    (case z_tuple => k_is)
    (case z_set => k_is)
    (case z_sorted => k_is)
    (case z_range => k_is)
    (case z_min => k_is)
    (case z_repr => k_is)
    (case bc0 => kernel_rfl)
    (case bf0 => kernel_rfl)
    (case bk => kernel_rfl)
    (case nb13 => kernel_rfl)
#print axioms PySem.Challenge.cw_whilemerged_k02_books_made_holds
