import PyProof.Rows.All
import Wide.All
import OpenK.AllK
import Wide.FinOn
import HandS.ForMost
import HandS.ForExc
import HandS.IsInst
import HandS.WordsExc
import HandS.Ends
import HandS.Style
import HandS.Lambda
import HandS.DictComp
import HandS.Finally
import HandS.TupAny
import HandS.Property
import HandS.MakeKwOnly
import HandS.SortInts
import HandS.WordsDict
import HandS.OwnEq
import PyProof.InstNe
import HandS.Strs
import HandS.SetFor
import HandS.RaiseMore
import KE.KExcSuper
import HandS.ExcInit
import HandS.ExcField
import KE.KExcIs
import HandS.ExcValue
import HandS.EndTab
import HandS.Sort
import HandS.Conv
import KE.KDictList
import KE.SortData
import HandS.Star
import PySem.Challenge.RW_whilemerged_k61_costs_of_plans
set_option Elab.async false
set_option linter.all false
set_option maxRecDepth 100000
set_option maxHeartbeats 6400000
namespace CM
open PySem PySem.Spec PyProof.Rows L2

/-! ### data: trees that never change, and names (ref) of objects that may -/
inductive D where
  | non | bl (b : Bool) | int (i : Int) | str (s : Str)
  | lst (xs : List D) | tup (xs : List D) | dct (kvs : List (Key × D))
  | obj (c : Nat) (fs : List (Str × D))
  | scr (ns : List Int) | ref (k : Nat) | ty (n : String) | cls (c : Nat)
  | exc (c : Nat) (fs : List (Str × D))
  deriving Inhabited
/-- an object that may change -/
inductive MO where
  | lst (xs : List D) | dct (kvs : List (Key × D)) | lck (kvs : List (Key × D)) | lkl (xs : List D) | obj (c : Nat) (fs : List (Str × D))
  | dctT (kvs : List (List Key × D))
  deriving Inhabited
/-- not walked at the moment -/
def NotLck : MO → Prop
  | .lck _ => False
  | .lkl _ => False
  | _ => True
abbrev Lckd (o : MO) : Prop := NotLck o → False
/-- the objects that may change, by name; nx: the next name -/
structure CH where
  nx : Nat
  ob : Nat → Option MO
def CH.new (h : CH) (o : MO) : CH := ⟨h.nx + 1, fun j => if j = h.nx then some o else h.ob j⟩
def CH.put (h : CH) (k : Nat) (o : MO) : CH := ⟨h.nx, fun j => if j = k then some o else h.ob j⟩
def CH.del (h : CH) (k : Nat) : CH := ⟨h.nx, fun j => if j = k then none else h.ob j⟩
def CH.emp : CH := ⟨0, fun _ => none⟩
/-- how a computation ends -/
inductive R (α : Type) where
  | ok (a : α) (h : CH)
  | ex (c : Nat) (fs : List (Str × D)) (h : CH)
  | no
def R.bind {α β : Type} (r : R α) (f : α → CH → R β) : R β := match r with
  | .ok a h => f a h
  | .ex c fs h => .ex c fs h
  | .no => .no
/-- no exception may leave -/
def R.calm {α β : Type} (r : R α) (f : α → CH → R β) : R β := match r with
  | .ok a h => f a h
  | .ex _ _ _ => .no
  | .no => .no

/-- the classes' addresses, and the tables of code objects -/
structure CAs where
  f : Nat → Addr
  T : List (Addr × Str)
instance : CoeFun CAs (fun _ => Nat → Addr) := ⟨CAs.f⟩
/-- no table and no other thing -/
def NTab : HO → Prop
  | .tbl _ => False
  | .ext _ => False
  | _ => True
/-- an exception of the class at C stands at a -/
def ExV (C a : Addr) (dd : Option Addr) : HO := .ext fun h => ∃ (oe : Obj) (vs : Array Value), h.get? a = some oe ∧ Zc (.ref C) dd oe ∧ oe.data = .fields vs
/-- where the named objects stand; and what is being made -/
structure Mp where
  f : Nat → Addr
  z : List Addr
instance : CoeFun Mp (fun _ => Nat → Addr) := ⟨Mp.f⟩
def Live (m : Mp) (h : CH) (a : Addr) : Prop := (∃ k o, h.ob k = some o ∧ m k = a) ∨ a ∈ m.z
/-- an object that is locked is the object -/
def core : HO → HO
  | .frz _ (.dK kvs) => .dK kvs
  | .frz _ (.dT kvs) => .dT kvs
  | .tbl _ => .tbl #[]
  | o => o
theorem core_ext {o : HO} {φ : Heap → Prop} (h : core o = .ext φ) : o = .ext φ := by
  cases o with
  | frz ob u => cases u <;> simp [core] at h
  | _ => first | exact h | simp [core] at h
theorem core_lst {o : HO} {xs : List V} (h : core o = .lst xs) : o = .lst xs := by
  cases o with
  | frz ob u => cases u <;> simp [core] at h
  | _ => first | exact h | simp [core] at h
theorem core_tup {o : HO} {xs : List V} (h : core o = .tup xs) : o = .tup xs := by
  cases o with
  | frz ob u => cases u <;> simp [core] at h
  | _ => first | exact h | simp [core] at h
theorem core_ins {o : HO} {c d : Addr} {fs : List (Str × V)} (h : core o = .ins c d fs) : o = .ins c d fs := by
  cases o with
  | frz ob u => cases u <;> simp [core] at h
  | _ => first | exact h | simp [core] at h
theorem core_xd {o : HO} {fs : List (Str × V)} (h : core o = .xd fs) : o = .xd fs := by
  cases o with
  | frz ob u => cases u <;> simp [core] at h
  | _ => first | exact h | simp [core] at h
theorem core_dK {o : HO} {kvs : List (Key × V)} (h : core o = .dK kvs) : o = .dK kvs ∨ ∃ ob, o = .frz ob (.dK kvs) := by
  cases o with
  | frz ob u => cases u <;> simp [core] at h <;> (subst h; exact .inr ⟨ob, rfl⟩)
  | dK k => simp [core] at h; exact .inl (by rw [h])
  | _ => simp [core] at h
theorem core_frzL {o : HO} {ob : Obj} {xs : List V} (h : core o = .frz ob (.lst xs)) : o = .frz ob (.lst xs) := by
  cases o with
  | frz ob' u => cases u <;> first | (simp [core] at h; done) | (simp only [core] at h; exact h)
  | _ => first | exact h | simp [core] at h

/-- what stands outside of the named objects is kept, or locked -/
def Lk (o o' : HO) : Prop := o' = o ∨ (∃ ob kvs, o = .dK kvs ∧ o' = .frz ob o) ∨ ∃ ps qs, o = .tbl ps ∧ o' = .tbl qs
theorem Lk.core {o o' : HO} (l : Lk o o') : core o' = core o := by
  rcases l with rfl | ⟨ob, kvs, rfl, rfl⟩ | ⟨ps, qs, rfl, rfl⟩ <;> rfl
def NoTb : HO → Prop
  | .tbl _ => False
  | _ => True
theorem lk_nt {o o' : HO} (l : Lk o o') (n : NoTb o) : NoTb o' := by
  rcases l with rfl | ⟨ob, kvs, rfl, rfl⟩ | ⟨ps, qs, rfl, rfl⟩
  · exact n
  · trivial
  · exact n.elim
theorem core_nt {o : HO} {kvs : List (Key × V)} (h : core o = .dK kvs) : NoTb o := by
  rcases core_dK h with rfl | ⟨ob, rfl⟩ <;> trivial
theorem Lk.trans {o o1 o2 : HO} (a : Lk o o1) (b : Lk o1 o2) : Lk o o2 := by
  rcases a with rfl | ⟨ob, kvs, rfl, rfl⟩ | ⟨ps, qs, rfl, rfl⟩
  · exact b
  · rcases b with rfl | ⟨ob', kvs', e, _⟩ | ⟨ps, qs, e, _⟩
    · exact .inr (.inl ⟨ob, kvs, rfl, rfl⟩)
    · cases e
    · cases e
  · rcases b with rfl | ⟨ob', kvs', e, _⟩ | ⟨ps', qs', e, rfl⟩
    · exact .inr (.inr ⟨ps, _, rfl, rfl⟩)
    · cases e
    · exact .inr (.inr ⟨ps, _, rfl, rfl⟩)
theorem Lk.frz {ob : Obj} {u o' : HO} (l : Lk (.frz ob u) o') : o' = .frz ob u := by
  rcases l with rfl | ⟨_, _, e, _⟩ | ⟨_, _, e, _⟩
  · rfl
  · cases e
  · cases e
section
variable (K : PySem.W.Frag) (CA : CAs) (m : Mp) (h : CH) (H : Hp)
mutual
inductive Rp : V → D → Prop
  | non : Rp .non .non
  | bl (b : Bool) : Rp (.bl b) (.bl b)
  | int (i : Int) : Rp (.int i) (.int i)
  | str (x : Str) : Rp (.str x) (.str x)
  | lst {a : Addr} {xs : List V} {ds : List D} : ¬ Live m h a → H a = some (.lst xs) → RpAll xs ds → Rp (.ref a) (.lst ds)
  | tup {a : Addr} {xs : List V} {ds : List D} : ¬ Live m h a → H a = some (.tup xs) → RpAll xs ds → Rp (.ref a) (.tup ds)
  | ktup {a : Addr} {xs : List V} {ds : List D} : SqT K (fun _ => none) a xs → RpAll xs ds → Rp (.ref a) (.tup ds)
  | dct {a : Addr} {o : HO} {kvs : List (Key × V)} {dks : List (Key × D)} : ¬ Live m h a → H a = some o → core o = .dK kvs → kvs.map (·.1) = dks.map (·.1) → RpAll (kvs.map (·.2)) (dks.map (·.2)) → Rp (.ref a) (.dct dks)
  | obj {a : Addr} {c : Nat} {dx : Addr} {fs : List (Str × V)} {dfs : List (Str × D)} : ¬ Live m h a → H a = some (.ins (CA c) dx fs) → fs.map (·.1) = dfs.map (·.1) → RpAll (fs.map (·.2)) (dfs.map (·.2)) → Rp (.ref a) (.obj c dfs)
  | scr {a : Addr} {ns : List Int} {o : Obj} : ¬ Live m h a → H a = some (.frz o (.lst (ns.map V.int))) → Rp (.ref a) (.scr ns)
  | kscr {a : Addr} {ns : List Int} : SqL K (fun _ => none) a (ns.map V.int) → Rp (.ref a) (.scr ns)
  | ref {k : Nat} : k < h.nx → Rp (.ref (m k)) (.ref k)
  | ty (n : String) : Rp (.ty n) (.ty n)
  | cls (c : Nat) : Rp (.ref (CA c)) (.cls c)
  | exc {a : Addr} {c : Nat} {dd : Option Addr} {fs : List (Str × V)} {dfs : List (Str × D)} : ¬ Live m h a → H a = some (ExV (CA c) a dd) → ((dd = none ∧ fs = []) ∨ ∃ x, dd = some x ∧ ¬ Live m h x ∧ H x = some (.xd fs)) → fs.map (·.1) = dfs.map (·.1) → RpAll (fs.map (·.2)) (dfs.map (·.2)) → Rp (.ref a) (.exc c dfs)
inductive RpAll : List V → List D → Prop
  | nil : RpAll [] []
  | cons {v : V} {vs : List V} {d : D} {ds : List D} : Rp v d → RpAll vs ds → RpAll (v :: vs) (d :: ds)
end
end
/-- a step: names stand, and what stands outside of the named objects stands on -/
structure Mv (m : Mp) (h : CH) (H : Hp) (m' : Mp) (h' : CH) (H' : Hp) : Prop where
  nx : h.nx ≤ h'.nx
  mp : ∀ k, k < h.nx → m' k = m k
  kp : ∀ a o, ¬ Live m h a → H a = some o → NoTb o → ¬ Live m' h' a ∧ ∃ o', H' a = some o' ∧ Lk o o'
structure Sz (m : Mp) (h : CH) (H : Hp) (m' : Mp) (h' : CH) (H' : Hp) : Prop extends Mv m h H m' h' H' where
  lk : ∀ k o, k < h.nx → h.ob k = some o → Lckd o → h'.ob k = some o ∧ H' (m k) = H (m k)
structure Stp (m : Mp) (h : CH) (H : Hp) (m' : Mp) (h' : CH) (H' : Hp) : Prop extends Sz m h H m' h' H' where
  z : m'.z = m.z
  zk : ∀ a, a ∈ m.z → H' a = H a
/-- while a thing is made at p -/
structure Sc (p : Addr) (m : Mp) (h : CH) (H : Hp) (m' : Mp) (h' : CH) (H' : Hp) : Prop extends Sz m h H m' h' H' where
  z : m'.z = m.z
  zk : ∀ a, a ∈ m.z → a ≠ p → H' a = H a
theorem Stp.mk' {m m' : Mp} {h h' : CH} {H H' : Hp} (x : Mv m h H m' h' H') (lk : ∀ k o, k < h.nx → h.ob k = some o → Lckd o → h'.ob k = some o ∧ H' (m k) = H (m k)) (z : m'.z = m.z) (zk : ∀ a, a ∈ m.z → H' a = H a) : Stp m h H m' h' H' := ⟨⟨x, lk⟩, z, zk⟩
theorem Stp.refl {m : Mp} {h : CH} {H : Hp} : Stp m h H m h H := .mk' ⟨Nat.le_refl _, fun _ _ => rfl, fun _ o n e _ => ⟨n, o, e, .inl rfl⟩⟩ (fun _ _ _ e _ => ⟨e, rfl⟩) rfl fun _ _ => rfl
theorem Stp.sc {p : Addr} {m m' : Mp} {h h' : CH} {H H' : Hp} (s : Stp m h H m' h' H') : Sc p m h H m' h' H' := ⟨s.toSz, s.z, fun a l _ => s.zk a l⟩
theorem Sz.trans {m m1 m2 : Mp} {h h1 h2 : CH} {H H1 H2 : Hp} (a : Sz m h H m1 h1 H1) (b : Sz m1 h1 H1 m2 h2 H2) : Sz m h H m2 h2 H2 :=
  ⟨⟨Nat.le_trans a.nx b.nx, fun k l => (b.mp k (Nat.lt_of_lt_of_le l a.nx)).trans (a.mp k l), fun x o n e nt => by
    obtain ⟨n1, o1, e1, c1⟩ := a.kp x o n e nt
    obtain ⟨n2, o2, e2, c2⟩ := b.kp x o1 n1 e1 (lk_nt c1 nt)
    exact ⟨n2, o2, e2, c1.trans c2⟩⟩, fun k kvs l e ld => by
    obtain ⟨e1, q1⟩ := a.lk k kvs l e ld
    obtain ⟨e2, q2⟩ := b.lk k kvs (Nat.lt_of_lt_of_le l a.nx) e1 ld
    rw [a.mp k l] at q2
    exact ⟨e2, q2.trans q1⟩⟩
theorem Stp.trans {m m1 m2 : Mp} {h h1 h2 : CH} {H H1 H2 : Hp} (a : Stp m h H m1 h1 H1) (b : Stp m1 h1 H1 m2 h2 H2) : Stp m h H m2 h2 H2 := ⟨a.toSz.trans b.toSz, b.z.trans a.z, fun x l => (b.zk x (by rw [a.z]; exact l)).trans (a.zk x l)⟩
theorem Sc.trans {p : Addr} {m m1 m2 : Mp} {h h1 h2 : CH} {H H1 H2 : Hp} (a : Sc p m h H m1 h1 H1) (b : Sc p m1 h1 H1 m2 h2 H2) : Sc p m h H m2 h2 H2 := ⟨a.toSz.trans b.toSz, b.z.trans a.z, fun x l n => (b.zk x (by rw [a.z]; exact l) n).trans (a.zk x l n)⟩

section
variable {K : PySem.W.Frag} {CA : CAs} {m m' : Mp} {h h' : CH} {H H' : Hp} {v : V} {d : D} {vs : List V} {ds : List D}
theorem Rp.mv0 (snx : h.nx ≤ h'.nx) (smp : ∀ k, k < h.nx → m' k = m k) (skp : ∀ a o, ¬ Live m h a → H a = some o → NoTb o → ¬ Live m' h' a ∧ ∃ o', H' a = some o' ∧ Lk o o') : ∀ {v d}, Rp K CA m h H v d → Rp K CA m' h' H' v d := fun {v d} r => by
  refine Rp.rec (motive_1 := fun v d _ => Rp K CA m' h' H' v d) (motive_2 := fun vs ds _ => RpAll K CA m' h' H' vs ds) ?_ ?_ ?_ ?_ ?_ ?_ ?_ ?_ ?_ ?_ ?_ ?_ ?_ ?_ ?_ ?_ ?_ r
  · exact .non
  · exact .bl
  · exact .int
  · exact .str
  · intro a xs ds n e _ ih
    obtain ⟨n', o', e', c⟩ := skp a _ n e trivial
    replace c := c.core
    exact .lst n' (by rw [e', core_lst c]) ih
  · intro a xs ds n e _ ih
    obtain ⟨n', o', e', c⟩ := skp a _ n e trivial
    replace c := c.core
    exact .tup n' (by rw [e', core_tup c]) ih
  · intro a xs ds e _ ih
    exact .ktup e ih
  · intro a o kvs dks n e c en _ ih
    obtain ⟨n', o', e', c'⟩ := skp a _ n e (core_nt c)
    replace c' := c'.core
    exact .dct n' e' (c'.trans c) en ih
  · intro a c dx fs dfs n e en _ ih
    obtain ⟨n', o', e', c'⟩ := skp a _ n e trivial
    replace c' := c'.core
    exact .obj n' (by rw [e', core_ins c']) en ih
  · intro a ns o n e
    obtain ⟨n', o', e', c'⟩ := skp a _ n e trivial
    replace c' := c'.core
    exact .scr n' (by rw [e', core_frzL c'])
  · intro a ns e
    exact .kscr e
  · intro k l
    rw [← smp k l]
    exact .ref (Nat.lt_of_lt_of_le l snx)
  · exact .ty
  · exact .cls
  · intro a c dd fs dfs n e hd en _ ih
    obtain ⟨n', o', e', c'⟩ := skp a _ n e trivial
    refine .exc n' (by rw [e', core_ext c'.core]; rfl) ?_ en ih
    rcases hd with q | ⟨x, rfl, nx, ex⟩
    · exact .inl q
    · obtain ⟨nx', ox, ex', cx⟩ := skp x _ nx ex trivial
      exact .inr ⟨x, rfl, nx', by rw [ex', core_xd cx.core]⟩
  · exact .nil
  · intro v vs d ds _ _ ih1 ih2
    exact .cons ih1 ih2
theorem RpAll.mv0 (snx : h.nx ≤ h'.nx) (smp : ∀ k, k < h.nx → m' k = m k) (skp : ∀ a o, ¬ Live m h a → H a = some o → NoTb o → ¬ Live m' h' a ∧ ∃ o', H' a = some o' ∧ Lk o o') : ∀ {vs ds}, RpAll K CA m h H vs ds → RpAll K CA m' h' H' vs ds := fun {vs ds} r => by
  induction vs generalizing ds with
  | nil => cases r; exact .nil
  | cons v vs ih => cases r with
    | cons h1 h2 => exact .cons (h1.mv0 snx smp skp) (ih h2)
theorem Rp.mv (s : Mv m h H m' h' H') {v d} (r : Rp K CA m h H v d) : Rp K CA m' h' H' v d := r.mv0 s.nx s.mp s.kp
theorem RpAll.mv (s : Mv m h H m' h' H') {vs ds} (r : RpAll K CA m h H vs ds) : RpAll K CA m' h' H' vs ds := r.mv0 s.nx s.mp s.kp
theorem Rp.move (s : Stp m h H m' h' H') {v d} (r : Rp K CA m h H v d) : Rp K CA m' h' H' v d := r.mv s.toMv
theorem RpAll.move (s : Stp m h H m' h' H') {vs ds} (r : RpAll K CA m h H vs ds) : RpAll K CA m' h' H' vs ds := r.mv s.toMv
theorem RpAll.length (r : RpAll K CA m h H vs ds) : vs.length = ds.length := by
  induction vs generalizing ds with
  | nil => cases r; rfl
  | cons v vs ih => cases r with
    | cons _ h2 => simp [ih h2]
theorem RpAll.getD (r : RpAll K CA m h H vs ds) {i : Nat} {d : D} (e : ds[i]? = some d) : ∃ v, vs[i]? = some v ∧ Rp K CA m h H v d := by
  induction vs generalizing ds i with
  | nil => cases r; simp at e
  | cons x vs ih => cases r with
    | cons h1 h2 =>
      cases i with
      | zero => simp at e; subst e; exact ⟨_, rfl, h1⟩
      | succ i => simpa using ih h2 (by simpa using e)
theorem RpAll.get (r : RpAll K CA m h H vs ds) {i : Nat} {v : V} (e : vs[i]? = some v) : ∃ d, ds[i]? = some d ∧ Rp K CA m h H v d := by
  induction vs generalizing ds i with
  | nil => simp at e
  | cons x vs ih => cases r with
    | cons h1 h2 =>
      cases i with
      | zero => simp at e; subst e; exact ⟨_, rfl, h1⟩
      | succ i => simpa using ih h2 (by simpa using e)
theorem RpAll.append {vs' : List V} {ds' : List D} (r : RpAll K CA m h H vs ds) (r' : RpAll K CA m h H vs' ds') : RpAll K CA m h H (vs ++ vs') (ds ++ ds') := by
  induction vs generalizing ds with
  | nil => cases r; exact r'
  | cons x vs ih => cases r with
    | cons h1 h2 => exact .cons h1 (ih h2)
theorem RpAll.take (r : RpAll K CA m h H vs ds) (n : Nat) : RpAll K CA m h H (vs.take n) (ds.take n) := by
  induction vs generalizing ds n with
  | nil => cases r; simp; exact .nil
  | cons x vs ih => cases r with
    | cons h1 h2 =>
      cases n with
      | zero => exact .nil
      | succ n => exact .cons h1 (ih h2 n)
theorem RpAll.drop (r : RpAll K CA m h H vs ds) (n : Nat) : RpAll K CA m h H (vs.drop n) (ds.drop n) := by
  induction vs generalizing ds n with
  | nil => cases r; simp; exact .nil
  | cons x vs ih => cases r with
    | cons h1 h2 =>
      cases n with
      | zero => exact .cons h1 h2
      | succ n => exact ih h2 n
theorem RpAll.eraseIdx (r : RpAll K CA m h H vs ds) (n : Nat) : RpAll K CA m h H (vs.eraseIdx n) (ds.eraseIdx n) := by
  induction vs generalizing ds n with
  | nil => cases r; simp; exact .nil
  | cons x vs ih => cases r with
    | cons h1 h2 =>
      cases n with
      | zero => exact h2
      | succ n => exact .cons h1 (ih h2 n)
theorem RpAll.set (r : RpAll K CA m h H vs ds) (n : Nat) (r1 : Rp K CA m h H v d) : RpAll K CA m h H (vs.set n v) (ds.set n d) := by
  induction vs generalizing ds n with
  | nil => cases r; simp; exact .nil
  | cons x vs ih => cases r with
    | cons h1 h2 =>
      cases n with
      | zero => exact .cons r1 h2
      | succ n => exact .cons h1 (ih h2 n)
theorem RpAll.reverse (r : RpAll K CA m h H vs ds) : RpAll K CA m h H vs.reverse ds.reverse := by
  induction vs generalizing ds with
  | nil => cases r; exact .nil
  | cons x vs ih => cases r with
    | cons h1 h2 =>
      simp only [List.reverse_cons]
      exact (ih h2).append (.cons h1 .nil)
end

section
variable (K : PySem.W.Frag) (CA : CAs) (m : Mp) (h : CH) (H : Hp)
/-- the named object o stands at a -/
inductive MOk (a : Addr) : MO → Prop
  | lst {xs : List V} {ds : List D} : H a = some (.lst xs) → RpAll K CA m h H xs ds → MOk a (.lst ds)
  | dct {kvs : List (Key × V)} {dks : List (Key × D)} : H a = some (.dK kvs) → kvs.map (·.1) = dks.map (·.1) → RpAll K CA m h H (kvs.map (·.2)) (dks.map (·.2)) → MOk a (.dct dks)
  | lck {ob : Obj} {kvs : List (Key × V)} {dks : List (Key × D)} : H a = some (.frz ob (.dK kvs)) → kvs.map (·.1) = dks.map (·.1) → RpAll K CA m h H (kvs.map (·.2)) (dks.map (·.2)) → MOk a (.lck dks)
  | lkl {xs : List V} {ds : List D} : H a = some (.lst xs) → RpAll K CA m h H xs ds → MOk a (.lkl ds)
  | obj {c : Nat} {dx : Addr} {fs : List (Str × V)} {dfs : List (Str × D)} : H a = some (.ins (CA c) dx fs) → fs.map (·.1) = dfs.map (·.1) → RpAll K CA m h H (fs.map (·.2)) (dfs.map (·.2)) → MOk a (.obj c dfs)
  | dctT {kvs : List (List Key × V)} {dks : List (List Key × D)} : H a = some (.dT kvs) → kvs.map (·.1) = dks.map (·.1) → RpAll K CA m h H (kvs.map (·.2)) (dks.map (·.2)) → MOk a (.dctT dks)
structure HR : Prop where
  ob : ∀ k o, h.ob k = some o → k < h.nx ∧ MOk K CA m h H (m k) o
  inj : ∀ k j o u, h.ob k = some o → h.ob j = some u → m k = m j → k = j
  zn : ∀ k o, h.ob k = some o → m k ∉ m.z
  zh : ∀ a, a ∈ m.z → ∃ u, H a = some u ∧ NTab u
  tb : LamX.Tabs CA.T H
abbrev DE := List (Option D)
structure SO (σ : L2.St) (ρ : DE) : Prop where
  hr : HR K CA m h H
  len : σ.length = ρ.length
  sl : ∀ (i : Nat) (d : D), ρ[i]? = some (some d) → ∃ v, σ[i]? = some (some v) ∧ Rp K CA m h H v d
/-- an exception, told -/
def XR (cls : Value) (dd : Option Addr) (c : Nat) (fs : List (Str × D)) : Prop :=
  cls = .ref (CA c) ∧ ((dd = none ∧ fs = []) ∨ ∃ (x : Addr) (hf : List (Str × V)), dd = some x ∧ ¬ Live m h x ∧ H x = some (.xd hf) ∧ hf.map (·.1) = fs.map (·.1) ∧ RpAll K CA m h H (hf.map (·.2)) (fs.map (·.2)))
end

section
variable {K : PySem.W.Frag} {CA : CAs} {m m' : Mp} {h h' : CH} {H H' : Hp} {σ : L2.St} {ρ : DE} {v : V} {d : D} {a p : Addr} {o : MO} {k : Nat}
theorem MOk.mv (s : Mv m h H m' h' H') (e : H' a = H a) (x : MOk K CA m h H a o) : MOk K CA m' h' H' a o := by
  cases x with
  | lst q r => exact .lst (e.trans q) (r.mv s)
  | dct q en r => exact .dct (e.trans q) en (r.mv s)
  | lck q en r => exact .lck (e.trans q) en (r.mv s)
  | lkl q r => exact .lkl (e.trans q) (r.mv s)
  | obj q en r => exact .obj (e.trans q) en (r.mv s)
  | dctT q en r => exact .dctT (e.trans q) en (r.mv s)
theorem MOk.move (s : Stp m h H m' h' H') (e : H' a = H a) (x : MOk K CA m h H a o) : MOk K CA m' h' H' a o := x.mv s.toMv e
theorem MOk.some (x : MOk K CA m h H a o) : ∃ u, H a = some u := by
  cases x with
  | lst q r => exact ⟨_, q⟩
  | dct q en r => exact ⟨_, q⟩
  | lck q en r => exact ⟨_, q⟩
  | lkl q r => exact ⟨_, q⟩
  | obj q en r => exact ⟨_, q⟩
  | dctT q en r => exact ⟨_, q⟩
theorem mok_nt (x : MOk K CA m h H a o) : ∃ u, H a = some u ∧ NTab u := by
  cases x with
  | lst q r => exact ⟨_, q, trivial⟩
  | dct q en r => exact ⟨_, q, trivial⟩
  | lck q en r => exact ⟨_, q, trivial⟩
  | lkl q r => exact ⟨_, q, trivial⟩
  | obj q en r => exact ⟨_, q, trivial⟩
  | dctT q en r => exact ⟨_, q, trivial⟩
/-- the tables, where something else is written -/
theorem tabs_upd {T : List (Addr × Str)} {u w : HO} (t : LamX.Tabs T H) (e : H a = some w) (n : NTab w) : LamX.Tabs T (upd H a u) := fun p hp => by
  obtain ⟨ps, h1, h2, h3⟩ := t p hp
  refine ⟨ps, by rw [upd_ne (fun z => by rw [z, e] at h1; cases h1; exact n)]; exact h1, h2, fun pos cv hc => ?_⟩
  obtain ⟨c, e1, e2⟩ := h3 pos cv hc
  refine ⟨c, e1, ?_⟩
  rw [upd_ne (fun z => by
    rw [z, e] at e2
    unfold LamX.CodeO at e2
    cases e2
    exact n)]
  exact e2
theorem tabs_grow {T : List (Addr × Str)} {H1 : Hp} (t : LamX.Tabs T H) (k : ∀ a u, H a = some u → H1 a = some u) : LamX.Tabs T H1 := t.ext k
theorem tabs_laid {T : List (Addr × Str)} {u : HO} (t : LamX.Tabs T H) (n : H p = none) : LamX.Tabs T (upd H p u) := t.ext fun a w e => by rw [upd_ne (ne_of_none e n)]; exact e
theorem HR.live (S : HR K CA m h H) (l : Live m h a) : ∃ u, H a = some u := by
  rcases l with ⟨k, o, e, rfl⟩ | l
  · exact (S.ob k o e).2.some
  · obtain ⟨u, q, _⟩ := S.zh a l
    exact ⟨u, q⟩
theorem HR.fresh (S : HR K CA m h H) (n : H p = none) : ¬ Live m h p := fun l => by
  obtain ⟨u, e⟩ := S.live l
  rw [n] at e; cases e
theorem SO.move (S : SO K CA m h H σ ρ) (s : Stp m h H m' h' H') (r : HR K CA m' h' H') : SO K CA m' h' H' σ ρ :=
  ⟨r, S.len, fun i d e => let ⟨v, e1, q⟩ := S.sl i d e; ⟨v, e1, q.move s⟩⟩
theorem XR.move {cls : Value} {dd : Option Addr} {c : Nat} {fs : List (Str × D)} (x : XR K CA m h H cls dd c fs) (s : Stp m h H m' h' H') : XR K CA m' h' H' cls dd c fs := by
  obtain ⟨x1, x2⟩ := x
  refine ⟨x1, x2.imp id ?_⟩
  rintro ⟨y, hf, e1, e2, e3, e4, e5⟩
  obtain ⟨n', o', e', c'⟩ := s.kp y _ e2 e3 trivial
  replace c' := c'.core
  exact ⟨y, hf, e1, n', by rw [e', core_xd c'], e4, e5.move s⟩
/-- a new object that does not change -/
theorem stp_laid (S : HR K CA m h H) {u : HO} (n : H p = none) : Stp m h H m h (upd H p u) :=
  .mk' ⟨Nat.le_refl _, fun _ _ => rfl, fun b x l e _ => ⟨l, x, by rw [upd_ne (ne_of_none e n)]; exact e, .inl rfl⟩⟩ (fun k kvs _ e _ => ⟨e, by
    obtain ⟨u, q⟩ := (S.ob k _ e).2.some
    exact upd_ne (ne_of_none q n)⟩) rfl fun a l => by
    obtain ⟨u, q, _⟩ := S.zh a l
    exact upd_ne (ne_of_none q n)
/-- things are laid: what stood stands -/
theorem stp_grow {H1 : Hp} (S : HR K CA m h H) (k : ∀ a u, H a = some u → H1 a = some u) : Stp m h H m h H1 :=
  .mk' ⟨Nat.le_refl _, fun _ _ => rfl, fun b x l e _ => ⟨l, x, k b x e, .inl rfl⟩⟩ (fun j kvs _ e _ => ⟨e, by
    obtain ⟨u, q⟩ := (S.ob j _ e).2.some
    rw [q]; exact k _ _ q⟩) rfl fun a l => by
    obtain ⟨u, q, _⟩ := S.zh a l
    rw [q]; exact k _ _ q
theorem HR.grow {H1 : Hp} (S : HR K CA m h H) (k : ∀ a u, H a = some u → H1 a = some u) : HR K CA m h H1 :=
  ⟨fun j o e => ⟨(S.ob j o e).1, (S.ob j o e).2.move (stp_grow S k) (by
    obtain ⟨x, q⟩ := (S.ob j o e).2.some
    rw [q]; exact k _ _ q)⟩, S.inj, S.zn, fun a l => by
    obtain ⟨w, q, nt⟩ := S.zh a l
    exact ⟨w, k a w q, nt⟩, tabs_grow S.tb k⟩
theorem HR.laid (S : HR K CA m h H) {u : HO} (n : H p = none) : HR K CA m h (upd H p u) :=
  ⟨fun k o e => ⟨(S.ob k o e).1, (S.ob k o e).2.move (stp_laid S n) (by
    obtain ⟨x, q⟩ := (S.ob k o e).2.some
    exact upd_ne (ne_of_none q n))⟩, S.inj, S.zn, fun a l => by
    obtain ⟨w, q, nt⟩ := S.zh a l
    exact ⟨w, by rw [upd_ne (ne_of_none q n)]; exact q, nt⟩, tabs_laid S.tb n⟩
/-- the names, with a new one -/
def mpNew (m : Mp) (h : CH) (p : Addr) : Mp := ⟨fun j => if j = h.nx then p else m j, m.z⟩
theorem mpNew_nx : mpNew m h p h.nx = p := if_pos rfl
theorem mpNew_lt (l : k < h.nx) : mpNew m h p k = m k := if_neg (Nat.ne_of_lt l)
theorem live_new (S : HR K CA m h H) {o : MO} (l : Live (mpNew m h p) (h.new o) a) : a = p ∨ Live m h a := by
  rcases l with ⟨k, u, e, rfl⟩ | l
  · unfold CH.new at e
    by_cases q : k = h.nx
    · subst q; exact .inl mpNew_nx
    · simp only [if_neg q] at e
      exact .inr (.inl ⟨k, u, e, (mpNew_lt (S.ob k u e).1).symm⟩)
  · exact .inr (.inr l)
/-- a new object that may change: laid at p (H1 is H with p laid, and perhaps more) -/
theorem stp_new (S : HR K CA m h H) {o : MO} {H1 : Hp} (n : H p = none) (k : ∀ a u, H a = some u → H1 a = some u) : Stp m h H (mpNew m h p) (h.new o) H1 :=
  .mk' ⟨Nat.le_succ _, fun k l => mpNew_lt l, fun b x l e _ => ⟨fun z => by
    rcases live_new S z with rfl | z
    · rw [n] at e; cases e
    · exact l z, x, k b x e, .inl rfl⟩⟩ (fun j kvs l e _ => ⟨by
    unfold CH.new
    simp only [if_neg (Nat.ne_of_lt l)]
    exact e, by
    obtain ⟨u, q⟩ := (S.ob j _ e).2.some
    rw [q]; exact k _ _ q⟩) rfl fun a l => by
    obtain ⟨u, q, _⟩ := S.zh a l
    rw [q]; exact k _ _ q
theorem HR.new (S : HR K CA m h H) {o : MO} {H1 : Hp} (n : H p = none) (k : ∀ a u, H a = some u → H1 a = some u) (x : MOk K CA (mpNew m h p) (h.new o) H1 p o) : HR K CA (mpNew m h p) (h.new o) H1 := by
  have key : ∀ j u, (h.new o).ob j = some u → (j = h.nx ∧ u = o) ∨ (j < h.nx ∧ h.ob j = some u) := fun j u e => by
    unfold CH.new at e
    by_cases q : j = h.nx
    · simp only [if_pos q] at e; cases e; exact .inl ⟨q, rfl⟩
    · simp only [if_neg q] at e
      exact .inr ⟨(S.ob j u e).1, e⟩
  have off : ∀ j u, h.ob j = some u → m j ≠ p := fun j u e z => S.fresh n (.inl ⟨j, u, e, z⟩)
  refine ⟨fun j u e => ?_, fun i j u w e1 e2 e3 => ?_, fun j u e => ?_, fun a l => ?_, tabs_grow S.tb k⟩
  · rcases key j u e with ⟨rfl, rfl⟩ | ⟨l, q⟩
    · exact ⟨Nat.lt_succ_self _, by rw [mpNew_nx]; exact x⟩
    · refine ⟨Nat.lt_succ_of_lt l, ?_⟩
      rw [mpNew_lt l]
      obtain ⟨y, z⟩ := (S.ob j u q).2.some
      exact (S.ob j u q).2.move (stp_new S n k) (by rw [z]; exact k _ _ z)
  · rcases key i u e1 with ⟨rfl, rfl⟩ | ⟨l1, q1⟩
    · rcases key j w e2 with ⟨rfl, rfl⟩ | ⟨l2, q2⟩
      · rfl
      · rw [mpNew_nx, mpNew_lt l2] at e3
        exact absurd e3.symm (off j w q2)
    · rcases key j w e2 with ⟨rfl, rfl⟩ | ⟨l2, q2⟩
      · rw [mpNew_nx, mpNew_lt l1] at e3
        exact absurd e3 (off i u q1)
      · rw [mpNew_lt l1, mpNew_lt l2] at e3
        exact S.inj i j u w q1 q2 e3
  · rcases key j u e with ⟨rfl, rfl⟩ | ⟨l, q⟩
    · rw [mpNew_nx]; exact fun z => S.fresh n (.inr z)
    · rw [mpNew_lt l]; exact S.zn j u q
  · obtain ⟨w, q, nt⟩ := S.zh a l
    exact ⟨w, k a w q, nt⟩
theorem upd_new {u : HO} (n : H p = none) : ∀ a w, H a = some w → upd H p u a = some w := fun a w e => by
  rw [upd_ne (ne_of_none e n)]; exact e
/-- the named object k is written -/
theorem live_put {o' : MO} (e : h.ob k = some o) : Live m (h.put k o') a ↔ Live m h a := by
  constructor
  · rintro (⟨j, u, q, rfl⟩ | q)
    · unfold CH.put at q
      by_cases z : j = k
      · subst z; exact .inl ⟨_, _, e, rfl⟩
      · simp only [if_neg z] at q; exact .inl ⟨_, _, q, rfl⟩
    · exact .inr q
  · rintro (⟨j, u, q, rfl⟩ | q)
    · by_cases z : j = k
      · subst z; exact .inl ⟨j, o', by unfold CH.put; simp, rfl⟩
      · exact .inl ⟨j, u, by unfold CH.put; simp only [if_neg z]; exact q, rfl⟩
    · exact .inr q
theorem mv_put (e : h.ob k = some o) {o' : MO} {u : HO} : Mv m h H m (h.put k o') (upd H (m k) u) :=
  ⟨Nat.le_refl _, fun _ _ => rfl, fun b x l q _ => ⟨fun z => l ((live_put e).mp z), x, by
    rw [upd_ne (fun z => l (.inl ⟨k, o, e, z.symm⟩))]; exact q, .inl rfl⟩⟩
theorem stp_put (S : HR K CA m h H) (e : h.ob k = some o) (nl : NotLck o) {o' : MO} {u : HO} : Stp m h H m (h.put k o') (upd H (m k) u) :=
  .mk' (mv_put e) (fun j kvs l q ld => by
    have nj : j ≠ k := fun z => by subst z; rw [q] at e; cases e; exact ld nl
    exact ⟨by unfold CH.put; simp only [if_neg nj]; exact q, upd_ne fun z => nj (S.inj _ _ _ _ q e z)⟩) rfl fun a l => upd_ne fun z => S.zn k _ e (by rw [← z]; exact l)
theorem HR.put (S : HR K CA m h H) (e : h.ob k = some o) {o' : MO} {u : HO} (x : MOk K CA m (h.put k o') (upd H (m k) u) (m k) o') : HR K CA m (h.put k o') (upd H (m k) u) := by
  have key : ∀ j w, (h.put k o').ob j = some w → (j = k ∧ w = o') ∨ (j ≠ k ∧ h.ob j = some w) := fun j w q => by
    unfold CH.put at q
    by_cases z : j = k
    · simp only [if_pos z] at q; cases q; exact .inl ⟨z, rfl⟩
    · simp only [if_neg z] at q; exact .inr ⟨z, q⟩
  have back : ∀ j w, (h.put k o').ob j = some w → ∃ w', h.ob j = some w' := fun j w q => by
    rcases key j w q with ⟨rfl, _⟩ | ⟨_, q⟩
    · exact ⟨_, e⟩
    · exact ⟨_, q⟩
  obtain ⟨w0, e0, n0⟩ := mok_nt (S.ob k o e).2
  refine ⟨fun j w q => ?_, fun i j w w' e1 e2 e3 => ?_, fun j w q => ?_, fun a l => ?_, tabs_upd S.tb e0 n0⟩
  · rcases key j w q with ⟨rfl, rfl⟩ | ⟨z, q⟩
    · exact ⟨(S.ob _ _ e).1, x⟩
    · exact ⟨(S.ob _ _ q).1, (S.ob _ _ q).2.mv (mv_put e) (upd_ne fun y => z (S.inj _ _ _ _ q e y))⟩
  · obtain ⟨y, q1⟩ := back i w e1
    obtain ⟨y', q2⟩ := back j w' e2
    exact S.inj i j _ _ q1 q2 e3
  · obtain ⟨y, q1⟩ := back j w q
    exact S.zn j _ q1
  · obtain ⟨y, q, nt⟩ := S.zh a l
    exact ⟨y, by rw [upd_ne (fun z => S.zn k o e (by rw [← z]; exact l))]; exact q, nt⟩
theorem put_same {o : MO} : (h.put k o).ob k = some o := by unfold CH.put; simp
theorem put_ne {o : MO} {j : Nat} (n : j ≠ k) : (h.put k o).ob j = h.ob j := by unfold CH.put; simp only [if_neg n]
/-- a dict is locked, things happen, it is unlocked -/
theorem lock_ok {kvs : List (Key × D)} (S : HR K CA m h H) (e : h.ob k = some (.dct kvs)) : ∃ hk, H (m k) = some (.dK hk) ∧ ∀ od, Stp m h H m (h.put k (.lck kvs)) (upd H (m k) (.frz od (.dK hk))) ∧ HR K CA m (h.put k (.lck kvs)) (upd H (m k) (.frz od (.dK hk))) := by
  have x := (S.ob k _ e).2
  cases x with
  | @dct hk _ q en r => exact ⟨hk, q, fun od => ⟨stp_put S e trivial, S.put e (.lck upd_same en (r.mv (mv_put e)))⟩⟩
theorem unlock_ok {kvs : List (Key × D)} {hk : List (Key × V)} {od : Obj} {m2 : Mp} {h2 : CH} {H2 : Hp} (S : HR K CA m h H) (e : h.ob k = some (.dct kvs)) (s : Stp m (h.put k (.lck kvs)) (upd H (m k) (.frz od (.dK hk))) m2 h2 H2) (S2 : HR K CA m2 h2 H2) :
    H2 (m2 k) = some (.frz od (.dK hk)) ∧ Stp m h H m2 (h2.put k (.dct kvs)) (upd H2 (m2 k) (.dK hk)) ∧ HR K CA m2 (h2.put k (.dct kvs)) (upd H2 (m2 k) (.dK hk)) := by
  have lt := (S.ob k _ e).1
  obtain ⟨e2, q2⟩ := s.lk k _ lt put_same id
  rw [upd_same] at q2
  have mk : m2 k = m k := s.mp k lt
  rw [← mk] at q2
  refine ⟨q2, .mk' ⟨s.nx, s.mp, fun a o l q nt => ?_⟩ (fun j kv l q ld => ?_) s.z (fun a l => ?_), S2.put e2 ?_⟩
  · have na : a ≠ m k := fun z => l (.inl ⟨k, _, e, z.symm⟩)
    obtain ⟨l2, o', q', lk⟩ := s.kp a o (fun z => l ((live_put e).mp z)) (by rw [upd_ne na]; exact q) nt
    exact ⟨fun z => l2 ((live_put e2).mp z), o', by rw [upd_ne (by rw [mk]; exact na)]; exact q', lk⟩
  · have nj : j ≠ k := fun z => by subst z; rw [q] at e; cases e; exact ld trivial
    have nm : m j ≠ m k := fun z => nj (S.inj _ _ _ _ q e z)
    obtain ⟨a1, a2⟩ := s.lk j kv l (by rw [put_ne nj]; exact q) ld
    rw [upd_ne nm] at a2
    exact ⟨by rw [put_ne nj]; exact a1, by rw [upd_ne (by rw [mk]; exact nm)]; exact a2⟩
  · have na : a ≠ m k := fun z => S.zn k _ e (by rw [← z]; exact l)
    have q3 := s.zk a l
    rw [upd_ne na] at q3
    rw [upd_ne (by rw [mk]; exact na)]
    exact q3
  · have x := (S2.ob k _ e2).2
    cases x with
    | @lck _ hk' _ q en r =>
      rw [q2] at q
      cases q
      exact .dct upd_same en (r.mv (mv_put e2))
theorem upd_eq {a : Addr} {u : HO} (e : H a = some u) : upd H a u = H := by
  funext b
  by_cases z : b = a
  · subst z; rw [upd_same, e]
  · rw [upd_ne z]
/-- a list is locked, things happen, it is unlocked -/
theorem lockL_ok {ds : List D} (S : HR K CA m h H) (e : h.ob k = some (.lst ds)) : ∃ xs, H (m k) = some (.lst xs) ∧ RpAll K CA m h H xs ds ∧ Stp m h H m (h.put k (.lkl ds)) H ∧ HR K CA m (h.put k (.lkl ds)) H := by
  have x := (S.ob k _ e).2
  cases x with
  | @lst xs _ q r =>
    have s1 := stp_put (o' := .lkl ds) (u := .lst xs) S e trivial
    have S1 := S.put (o' := .lkl ds) (u := .lst xs) e (.lkl upd_same (r.mv (mv_put e)))
    rw [upd_eq q] at s1 S1
    exact ⟨xs, q, r, s1, S1⟩
theorem unlockL_ok {ds : List D} {m2 : Mp} {h2 : CH} {H2 : Hp} (S : HR K CA m h H) (e : h.ob k = some (.lst ds)) (s : Stp m (h.put k (.lkl ds)) H m2 h2 H2) (S2 : HR K CA m2 h2 H2) :
    h2.ob k = some (.lkl ds) ∧ Stp m h H m2 (h2.put k (.lst ds)) H2 ∧ HR K CA m2 (h2.put k (.lst ds)) H2 := by
  have lt := (S.ob k _ e).1
  obtain ⟨e2, q2⟩ := s.lk k _ lt put_same id
  have x := (S2.ob k _ e2).2
  cases x with
  | @lkl xs _ qh r =>
    have S3 := S2.put (o' := .lst ds) (u := .lst xs) e2 (.lst upd_same (r.mv (mv_put e2)))
    rw [upd_eq qh] at S3
    refine ⟨e2, .mk' ⟨s.nx, s.mp, fun a o l qa nt => ?_⟩ (fun j kv l qj ld => ?_) s.z s.zk, S3⟩
    · obtain ⟨l2, o', q', lk⟩ := s.kp a o (fun z => l ((live_put e).mp z)) qa nt
      exact ⟨fun z => l2 ((live_put e2).mp z), o', q', lk⟩
    · have nj : j ≠ k := fun z => by subst z; rw [qj] at e; cases e; exact ld trivial
      obtain ⟨a1, a2⟩ := s.lk j kv l (by rw [put_ne nj]; exact qj) ld
      exact ⟨by rw [put_ne nj]; exact a1, a2⟩
/-- the named object k is given free: it will not change -/
theorem live_del (S : HR K CA m h H) (e : h.ob k = some o) : Live m (h.del k) a → Live m h a ∧ a ≠ m k := by
  rintro (⟨j, u, q, rfl⟩ | q)
  · unfold CH.del at q
    by_cases z : j = k
    · simp only [if_pos z] at q; cases q
    · simp only [if_neg z] at q
      exact ⟨.inl ⟨j, u, q, rfl⟩, fun y => z (S.inj _ _ _ _ q e y)⟩
  · exact ⟨.inr q, fun z => S.zn k o e (z ▸ q)⟩
theorem stp_del (S : HR K CA m h H) (e : h.ob k = some o) (nl : NotLck o) : Stp m h H m (h.del k) H :=
  .mk' ⟨Nat.le_refl _, fun _ _ => rfl, fun b x l q _ => ⟨fun z => l (live_del S e z).1, x, q, .inl rfl⟩⟩ (fun j kvs l q ld => by
    have nj : j ≠ k := fun z => by subst z; rw [q] at e; cases e; exact ld nl
    exact ⟨by unfold CH.del; simp only [if_neg nj]; exact q, rfl⟩) rfl fun _ _ => rfl
theorem HR.del (S : HR K CA m h H) (e : h.ob k = some o) (nl : NotLck o) : HR K CA m (h.del k) H := by
  have key : ∀ j w, (h.del k).ob j = some w → h.ob j = some w := fun j w q => by
    unfold CH.del at q
    by_cases z : j = k
    · simp only [if_pos z] at q; cases q
    · simp only [if_neg z] at q; exact q
  exact ⟨fun j w q => ⟨(S.ob j w (key j w q)).1, (S.ob j w (key j w q)).2.move (stp_del S e nl) rfl⟩, fun i j w w' e1 e2 => S.inj i j w w' (key i w e1) (key j w' e2), fun j w q => S.zn j w (key j w q), S.zh, S.tb⟩
/-- a thing begins to be made at p -/
def Mp.add (m : Mp) (p : Addr) : Mp := ⟨m.f, p :: m.z⟩
theorem Mp.add_kp {u : HO} (n : H p = none) : ∀ a o, ¬ Live m h a → H a = some o → NoTb o → ¬ Live (m.add p) h a ∧ ∃ o', upd H p u a = some o' ∧ Lk o o' := fun a o l e _ => ⟨fun z => by
    rcases z with ⟨k, w, q, rfl⟩ | z
    · exact l (.inl ⟨k, w, q, rfl⟩)
    · rcases List.mem_cons.mp z with rfl | z
      · rw [n] at e; cases e
      · exact l (.inr z), o, by rw [upd_ne (ne_of_none e n)]; exact e, .inl rfl⟩
theorem Rp.add {u : HO} (n : H p = none) {v : V} {d : D} (r : Rp K CA m h H v d) : Rp K CA (m.add p) h (upd H p u) v d := Rp.mv0 (m := m) (h := h) (H := H) (m' := m.add p) (h' := h) (H' := upd H p u) (Nat.le_refl _) (fun _ _ => rfl) (Mp.add_kp n) r
theorem RpAll.add {u : HO} (n : H p = none) {v : List V} {d : List D} (r : RpAll K CA m h H v d) : RpAll K CA (m.add p) h (upd H p u) v d := RpAll.mv0 (m := m) (h := h) (H := H) (m' := m.add p) (h' := h) (H' := upd H p u) (Nat.le_refl _) (fun _ _ => rfl) (Mp.add_kp n) r
theorem HR.add (S : HR K CA m h H) {u : HO} (n : H p = none) (nu : NTab u := by trivial) : HR K CA (m.add p) h (upd H p u) := by
  have rps : ∀ {vs : List V} {ds : List D}, RpAll K CA m h H vs ds → RpAll K CA (m.add p) h (upd H p u) vs ds := fun r => r.add n
  refine ⟨fun k o e => ⟨(S.ob k o e).1, ?_⟩, S.inj, fun k o e z => ?_, fun a l => ?_, tabs_laid S.tb n⟩
  · have ne : m k ≠ p := fun z => S.fresh n (.inl ⟨k, o, e, z⟩)
    have x := (S.ob k o e).2
    have nq : ∀ {w}, H (m k) = some w → upd H p u ((m.add p) k) = some w := fun {w} q => by
      show upd H p u (m k) = some w
      rw [upd_ne ne]; exact q
    cases x with
    | lst q r => exact .lst (nq q) (rps r)
    | dct q en r => exact .dct (nq q) en (rps r)
    | lck q en r => exact .lck (nq q) en (rps r)
    | lkl q r => exact .lkl (nq q) (rps r)
    | obj q en r => exact .obj (nq q) en (rps r)
    | dctT q en r => exact .dctT (nq q) en (rps r)
  · rcases List.mem_cons.mp z with z | z
    · exact S.fresh n (.inl ⟨k, o, e, z⟩)
    · exact S.zn k o e z
  · rcases List.mem_cons.mp l with rfl | l
    · exact ⟨u, upd_same, nu⟩
    · obtain ⟨w, q, nt⟩ := S.zh a l
      exact ⟨w, by rw [upd_ne (ne_of_none q n)]; exact q, nt⟩
/-- .. it is changed while it is made -/
theorem sc_made (S : HR K CA m h H) (l : p ∈ m.z) {u : HO} : Sc p m h H m h (upd H p u) := by
  refine ⟨⟨⟨Nat.le_refl _, fun _ _ => rfl, fun b x nl q _ => ⟨nl, x, ?_, .inl rfl⟩⟩, fun k kvs _ e _ => ⟨e, upd_ne fun z => S.zn k _ e (by rw [z]; exact l)⟩⟩, rfl, fun a _ n => upd_ne n⟩
  have hb : b ≠ p := fun z => nl (.inr (by rw [z]; exact l))
  rw [upd_ne hb]; exact q
theorem sz_add (S : HR K CA m h H) {u : HO} (n : H p = none) : Sz m h H (m.add p) h (upd H p u) :=
  ⟨⟨Nat.le_refl _, fun _ _ => rfl, Mp.add_kp n⟩, fun k kvs _ e _ => ⟨e, upd_ne fun z => S.fresh n (.inl ⟨k, _, e, z⟩)⟩⟩
theorem HR.made (S : HR K CA m h H) (l : p ∈ m.z) {u : HO} (nu : NTab u := by trivial) : HR K CA m h (upd H p u) :=
  let ⟨_, e0, n0⟩ := S.zh p l
  ⟨fun k o e => ⟨(S.ob k o e).1, (S.ob k o e).2.mv (sc_made S l).toMv (upd_ne fun z => S.zn k _ e (by rw [z]; exact l))⟩, S.inj, S.zn, fun a la => by
    by_cases q : a = p
    · subst q; exact ⟨u, upd_same, nu⟩
    · obtain ⟨w, e, nt⟩ := S.zh a la
      exact ⟨w, by rw [upd_ne q]; exact e, nt⟩, tabs_upd S.tb e0 n0⟩
/-- .. it is made: since (m, h, H), where p was free -/
theorem stp_done {m2 : Mp} {h2 : CH} {H2 : Hp} (S : HR K CA m h H) {u : HO} (n : H p = none) (s : Sc p (m.add p) h (upd H p u) m2 h2 H2) : Stp m h H ⟨m2.f, m.z⟩ h2 H2 := by
  have z2 : m2.z = p :: m.z := s.z
  refine .mk' ⟨s.nx, s.mp, fun a o l e nt => ?_⟩ (fun k kvs l e ld => ?_) rfl fun a l => ?_
  · have ne : a ≠ p := ne_of_none e n
    obtain ⟨l2, o', e', k'⟩ := s.kp a o (fun z => by
      rcases z with ⟨k, w, q, rfl⟩ | z
      · exact l (.inl ⟨k, w, q, rfl⟩)
      · rcases List.mem_cons.mp z with z | z
        · exact ne z
        · exact l (.inr z)) (by rw [upd_ne ne]; exact e) nt
    refine ⟨fun z => l2 ?_, o', e', k'⟩
    rcases z with z | z
    · exact .inl z
    · exact .inr (by rw [z2]; exact List.mem_cons_of_mem _ z)
  · obtain ⟨a1, a2⟩ := s.lk k kvs l e ld
    have ne : m k ≠ p := fun z => S.fresh n (.inl ⟨k, _, e, z⟩)
    exact ⟨a1, a2.trans (upd_ne ne)⟩
  · have ne : a ≠ p := fun z => S.fresh n (.inr (by rw [← z]; exact l))
    exact (s.zk a (List.mem_cons_of_mem _ l) ne).trans (upd_ne ne)
theorem Mp.done_kp {m2 : Mp} {zs : List Addr} {h2 : CH} {H2 : Hp} (z2 : m2.z = p :: zs) : ∀ a o, ¬ Live m2 h2 a → H2 a = some o → NoTb o → ¬ Live ⟨m2.f, zs⟩ h2 a ∧ ∃ o', H2 a = some o' ∧ Lk o o' := fun a o l e _ => ⟨fun z => l (by
    rcases z with z | z
    · exact .inl z
    · exact .inr (by rw [z2]; exact List.mem_cons_of_mem _ z)), o, e, .inl rfl⟩
theorem RpAll.done {m2 : Mp} {zs : List Addr} {h2 : CH} {H2 : Hp} (z2 : m2.z = p :: zs) {vs : List V} {ds : List D} (r : RpAll K CA m2 h2 H2 vs ds) : RpAll K CA ⟨m2.f, zs⟩ h2 H2 vs ds := RpAll.mv0 (m := m2) (h := h2) (H := H2) (m' := ⟨m2.f, zs⟩) (h' := h2) (H' := H2) (Nat.le_refl _) (fun _ _ => rfl) (Mp.done_kp z2) r
theorem HR.done {m2 : Mp} {zs : List Addr} {h2 : CH} {H2 : Hp} (S : HR K CA m2 h2 H2) (z2 : m2.z = p :: zs) : HR K CA ⟨m2.f, zs⟩ h2 H2 := by
  refine ⟨fun k o e => ⟨(S.ob k o e).1, ?_⟩, S.inj, fun k o e z => S.zn k o e (by rw [z2]; exact List.mem_cons_of_mem _ z), fun a l => S.zh a (by rw [z2]; exact List.mem_cons_of_mem _ l), S.tb⟩
  have x := (S.ob k o e).2
  cases x with
  | lst q r => exact .lst q (r.done z2)
  | dct q en r => exact .dct q en (r.done z2)
  | lck q en r => exact .lck q en (r.done z2)
  | lkl q r => exact .lkl q (r.done z2)
  | obj q en r => exact .obj q en (r.done z2)
  | dctT q en r => exact .dctT q en (r.done z2)
theorem set_some {α : Type} {l : List α} {i j : Nat} {x y : α} (h : (l.set i x)[j]? = some y) : (j = i ∧ y = x) ∨ (j ≠ i ∧ l[j]? = some y) := by
  by_cases e : j = i
  · subst e
    left
    refine ⟨rfl, ?_⟩
    rw [List.getElem?_set_self' ] at h
    cases q : l[j]? with
    | none => rw [q] at h; simp at h
    | some z => rw [q] at h; simpa using h.symm
  · right
    rw [List.getElem?_set_ne (Ne.symm e)] at h
    exact ⟨e, h⟩
theorem SO.set (S : SO K CA m h H σ ρ) (i : Nat) (r : Rp K CA m h H v d) : SO K CA m h H (σ.set i (some v)) (ρ.set i (some d)) := by
  refine ⟨S.hr, by simp [S.len], fun j s e => ?_⟩
  rcases set_some e with ⟨rfl, q⟩ | ⟨n, q⟩
  · cases q
    have hj : j < ρ.length := by
      have := (List.getElem?_eq_some_iff.mp e).1
      simpa using this
    exact ⟨v, by rw [List.getElem?_set_self (by rw [S.len]; exact hj)], r⟩
  · obtain ⟨w, e1, h⟩ := S.sl j s q
    exact ⟨w, by rw [List.getElem?_set_ne (Ne.symm n)]; exact e1, h⟩
end
end CM
namespace CM
open PySem PySem.Spec PyProof.Rows L2

/-! ### readings -/
abbrev TD := DE → CH → R D
abbrev TDs := DE → CH → R (List D)
abbrev TB := DE → CH → R Bool
/-- how a statement ends -/
inductive RS where
  | nx (ρ : DE) (h : CH) | rt (d : D) (h : CH) | bk (ρ : DE) (h : CH) | ct (ρ : DE) (h : CH)
  | ex (ρ : DE) (c : Nat) (fs : List (Str × D)) (h : CH) | no
abbrev SD := DE → CH → RS
def R.toS {α : Type} (r : R α) (ρ : DE) (f : α → CH → RS) : RS := match r with
  | .ok a h => f a h
  | .ex c fs h => .ex ρ c fs h
  | .no => .no
section
variable (K : PySem.W.Frag) (CA : CAs) (W : WX)
def PostG {α β : Type} (RR : Mp → CH → Hp → β → α → Prop) (m : Mp) (h : CH) (H : Hp) (σ : L2.St) (Q' : β → Hp → Prop) : R α → Prop
  | .ok a h' => ∀ m' b H', Stp m h H m' h' H' → HR K CA m' h' H' → RR m' h' H' b a → Q' b H'
  | .ex c fs h' => ∀ m' cls dd H', Stp m h H m' h' H' → HR K CA m' h' H' → XR K CA m' h' H' cls dd c fs → W cls dd σ H'
  | .no => False
abbrev RB : Mp → CH → Hp → Bool → Bool → Prop := fun _ _ _ b a => b = a
abbrev PostE := PostG K CA W (Rp K CA)
abbrev PostA := PostG K CA W (RpAll K CA)
abbrev PostT := PostG K CA W RB
def SimE (tH : TE) (t : TD) : Prop := ∀ (m : Mp) (h : CH) (H : Hp) (σ : L2.St) (ρ : DE) (Q' : VK), SO K CA m h H σ ρ → PostE K CA W m h H σ Q' (t ρ h) → tH σ H Q'
def SimT (tH : TT) (t : TB) : Prop := ∀ (m : Mp) (h : CH) (H : Hp) (σ : L2.St) (ρ : DE) (Q' : Bool → Hp → Prop), SO K CA m h H σ ρ → PostT K CA W m h H σ Q' (t ρ h) → tH σ H Q'
def SimA (tH : TA) (t : TDs) : Prop := ∀ (m : Mp) (h : CH) (H : Hp) (σ : L2.St) (ρ : DE) (Q' : List V → Hp → Prop), SO K CA m h H σ ρ → PostA K CA W m h H σ Q' (t ρ h) → tH σ H Q'
end
/-- operations by values -/
abbrev F1 := D → CH → R D
abbrev F2 := D → D → CH → R D
abbrev FD := List D → CH → R D
def SimR (K : PySem.W.Frag) (CA : CAs) (r : R2) (f : F2) : Prop := ∀ (W : WX) (σ : L2.St) (m : Mp) (h : CH) (H : Hp) (x y : V) (dx dy : D) (Q' : VK), HR K CA m h H → Rp K CA m h H x dx → Rp K CA m h H y dy → PostE K CA W m h H σ Q' (f dx dy h) → r x y H Q'
def SimU (K : PySem.W.Frag) (CA : CAs) (r : V → Hp → VK → Prop) (f : F1) : Prop := ∀ (W : WX) (σ : L2.St) (m : Mp) (h : CH) (H : Hp) (x : V) (dx : D) (Q' : VK), HR K CA m h H → Rp K CA m h H x dx → PostE K CA W m h H σ Q' (f dx h) → r x H Q'
def SimC (K : PySem.W.Frag) (CA : CAs) (r : List V → Hp → VK → Prop) (f : FD) : Prop := ∀ (W : WX) (σ : L2.St) (m : Mp) (h : CH) (H : Hp) (xs : List V) (ds : List D) (Q' : VK), HR K CA m h H → RpAll K CA m h H xs ds → PostE K CA W m h H σ Q' (f ds h) → r xs H Q'

section
variable {K : PySem.W.Frag} {CA : CAs} {W : WX} {m m1 : Mp} {h h1 : CH} {H H1 : Hp} {σ : L2.St} {α β γ δ : Type} {RR : Mp → CH → Hp → β → α → Prop} {RR2 : Mp → CH → Hp → δ → γ → Prop} {Q1 : β → Hp → Prop} {Q2 : δ → Hp → Prop} {p : Addr} {u : HO} {d : D} {v : V} {Q' : VK}
theorem PostG.from {r : R α} (q : PostG K CA W RR m h H σ Q1 r) (s : Stp m h H m1 h1 H1) : PostG K CA W RR m1 h1 H1 σ Q1 r := by
  cases r with
  | ok a h2 => exact fun m' b H' s' => q m' b H' (s.trans s')
  | ex c fs h2 => exact fun m' cls dd H' s' => q m' cls dd H' (s.trans s')
  | no => exact q
theorem PostG.bind {r : R α} {k : α → CH → R γ} (q : PostG K CA W RR2 m h H σ Q2 (r.bind k))
    (f : ∀ a h1 m1 b H1, Stp m h H m1 h1 H1 → HR K CA m1 h1 H1 → RR m1 h1 H1 b a → PostG K CA W RR2 m1 h1 H1 σ Q2 (k a h1) → Q1 b H1) : PostG K CA W RR m h H σ Q1 r := by
  cases r with
  | ok a h1 => exact fun m1 b H1 s S rr => f a h1 m1 b H1 s S rr (q.from s)
  | ex c fs h1 => exact q
  | no => exact q
theorem PostG.here {a : α} {b : β} (q : PostG K CA W RR m h H σ Q1 (.ok a h)) (S : HR K CA m h H) (r : RR m h H b a) : Q1 b H := q m b H .refl S r
theorem PostG.laid (q : PostE K CA W m h H σ Q' (.ok d h)) (S : HR K CA m h H) (n : H p = none) (r : Rp K CA m h (upd H p u) (.ref p) d) : Q' (.ref p) (upd H p u) := q m _ _ (stp_laid S n) (S.laid n) r
theorem PostG.new {o : MO} (q : PostE K CA W m h H σ Q' (.ok (.ref h.nx) (h.new o))) (S : HR K CA m h H) (n : H p = none) (x : MOk K CA (mpNew m h p) (h.new o) (upd H p u) p o) : Q' (.ref p) (upd H p u) :=
  q (mpNew m h p) _ _ (stp_new S n (upd_new n)) (S.new n (upd_new n) x) (by
    have := Rp.ref (K := K) (CA := CA) (m := mpNew m h p) (h := h.new o) (H := upd H p u) (k := h.nx) (Nat.lt_succ_self _)
    rw [mpNew_nx] at this
    exact this)
theorem rps_laid {vs : List V} {ds : List D} (S : HR K CA m h H) (n : H p = none) (r : RpAll K CA m h H vs ds) : RpAll K CA m h (upd H p u) vs ds := r.move (stp_laid S n)
theorem rps_new {vs : List V} {ds : List D} {o : MO} (S : HR K CA m h H) (n : H p = none) (r : RpAll K CA m h H vs ds) : RpAll K CA (mpNew m h p) (h.new o) (upd H p u) vs ds := r.move (stp_new S n (upd_new n))
end

/-- a new list, dict: a named object (true), or data -/
def mkL (nm : Bool) (ds : List D) (h : CH) : R D := match nm with
  | true => .ok (.ref h.nx) (h.new (.lst ds))
  | false => .ok (.lst ds) h
def mkD (nm : Bool) (ds : List (Key × D)) (h : CH) : R D := match nm with
  | true => .ok (.ref h.nx) (h.new (.dct ds))
  | false => .ok (.dct ds) h
section
variable {K : PySem.W.Frag} {CA : CAs} {W : WX} {m : Mp} {h : CH} {H : Hp} {σ : L2.St} {p : Addr} {Q' : VK}
theorem mkL_post {nm : Bool} {xs : List V} {ds : List D} (S : HR K CA m h H) (n : H p = none) (r : RpAll K CA m h H xs ds) (t : PostE K CA W m h H σ Q' (mkL nm ds h)) : Q' (.ref p) (upd H p (.lst xs)) := by
  cases nm with
  | true => exact PostG.new (show PostE K CA W m h H σ Q' (.ok (.ref h.nx) (h.new (.lst ds))) from t) S n (.lst upd_same (rps_new S n r))
  | false => exact PostG.laid (show PostE K CA W m h H σ Q' (.ok (.lst ds) h) from t) S n (.lst (S.fresh n) upd_same (rps_laid S n r))
theorem mkD_post {nm : Bool} {kvs : List (Key × V)} {dks : List (Key × D)} (S : HR K CA m h H) (n : H p = none) (en : kvs.map (·.1) = dks.map (·.1)) (r : RpAll K CA m h H (kvs.map (·.2)) (dks.map (·.2))) (t : PostE K CA W m h H σ Q' (mkD nm dks h)) : Q' (.ref p) (upd H p (.dK kvs)) := by
  cases nm with
  | true => exact PostG.new (show PostE K CA W m h H σ Q' (.ok (.ref h.nx) (h.new (.dct dks))) from t) S n (.dct upd_same en (rps_new S n r))
  | false => exact PostG.laid (show PostE K CA W m h H σ Q' (.ok (.dct dks) h) from t) S n (.dct (S.fresh n) upd_same rfl en (rps_laid S n r))
end

section
variable (X : Cx) (K : PySem.W.Frag) (CA : CAs) (W : WX)
structure WE (e : Expr) (tH : TE) (t : TD) : Prop where
  pe : PE X e tH
  sim : SimE K CA W tH t
structure WT (e : Expr) (tH : TT) (t : TB) : Prop where
  pe : PT X e tH
  sim : SimT K CA W tH t
structure WW (e : Expr) (tH : TT) (t : TB) : Prop where
  pe : PW X e tH
  sim : SimT K CA W tH t
structure WA (es : List Expr) (tH : TA) (t : TDs) : Prop where
  pe : PA X es tH
  sim : SimA K CA W tH t
end

def dVar (i : Nat) : TD := fun ρ h => match ρ[i]? with
  | some (some d) => .ok d h
  | _ => .no
def dC (d : D) : TD := fun _ h => .ok d h
def dOp (f : F2) (ta tb : TD) : TD := fun ρ h => (ta ρ h).bind fun x h => (tb ρ h).bind fun y h => f x y h
def dUn (f : F1) (ta : TD) : TD := fun ρ h => (ta ρ h).bind f
def dNil : TDs := fun _ h => .ok [] h
def dCons (ta : TD) (ts : TDs) : TDs := fun ρ h => (ta ρ h).bind fun x h => (ts ρ h).bind fun xs h => .ok (x :: xs) h
def dTup (ts : TDs) : TD := fun ρ h => (ts ρ h).bind fun xs h => if xs.length ≤ sizeLine then .ok (.tup xs) h else .no
def dLst (nm : Bool) (ts : TDs) : TD := fun ρ h => (ts ρ h).bind fun xs h => if xs.length ≤ sizeLine then mkL nm xs h else .no
def asB : D → CH → R Bool
  | .bl b, h => .ok b h
  | _, _ => .no
def dB (t : TD) : TB := fun ρ h => (t ρ h).bind asB
def dAnd (t u : TB) : TB := fun ρ h => (t ρ h).bind fun c h => if c = true then u ρ h else .ok false h
def dOr (t u : TB) : TB := fun ρ h => (t ρ h).bind fun c h => if c = true then .ok true h else u ρ h
def dNot (t : TB) : TB := fun ρ h => (t ρ h).bind fun c h => .ok (!c) h
def dAndV (ta tb : TD) : TD := fun ρ h => (ta ρ h).bind fun x h => (asB x h).bind fun c h => if c = true then tb ρ h else .ok (.bl false) h
def dOrV (ta tb : TD) : TD := fun ρ h => (ta ρ h).bind fun x h => (asB x h).bind fun c h => if c = true then .ok (.bl true) h else tb ρ h
def dNotV (ta : TD) : TD := fun ρ h => (ta ρ h).bind fun x h => (asB x h).bind fun c h => .ok (.bl (!c)) h
def dIf (t : TB) (ta tb : TD) : TD := fun ρ h => (t ρ h).bind fun c h => if c = true then ta ρ h else tb ρ h
def dCB (f : FD) (ts : TDs) : TD := fun ρ h => (ts ρ h).bind f
def dChain (f f' : F2) (ta tb tc : TD) : TD := fun ρ h => (ta ρ h).bind fun x h => (tb ρ h).bind fun y h => (f x y h).bind fun z h => (asB z h).bind fun k h =>
  if k = true then (tc ρ h).bind fun w h => f' y w h else .ok (.bl false) h

section
variable {X : Cx} {K : PySem.W.Frag} {CA : CAs} {W : WX} {e a b c : Expr} {es : List Expr} {pos : Pos} {ha hb hc : TE} {ta tb tc : TD} {hs : TA} {ts : TDs} {hA hB : TT} {tA tB : TB} {rest : List Expr}
theorem we_var {i : Nat} (h : PE X e (L2.tVar i)) : WE X K CA W e (L2.tVar i) (dVar i) := ⟨h, fun m h H σ ρ Q' S t => by
  unfold dVar at t
  split at t
  · rename_i d e1
    obtain ⟨v, e2, r⟩ := S.sl i _ e1
    exact ⟨v, e2, t.here S.hr r⟩
  · exact t.elim⟩
theorem we_int {i j} : WE X K CA W (.Constant (.int i) j pos) (L2.tC (.int i)) (dC (.int i)) := ⟨pe_int, fun m h H σ ρ Q' S t => t.here S.hr (.int i)⟩
theorem we_bl {i j} : WE X K CA W (.Constant (.bool i) j pos) (L2.tC (.bl i)) (dC (.bl i)) := ⟨pe_bl, fun m h H σ ρ Q' S t => t.here S.hr (.bl i)⟩
theorem we_non {j} : WE X K CA W (.Constant .none j pos) (L2.tC .non) (dC .non) := ⟨pe_non, fun m h H σ ρ Q' S t => t.here S.hr .non⟩
theorem we_str {x j} : WE X K CA W (.Constant (.str x) j pos) (L2.tC (.str x)) (dC (.str x)) := ⟨pe_str, fun m h H σ ρ Q' S t => t.here S.hr (.str x)⟩
/-- a built-in type as a value -/
theorem we_ty {n : String} (h : PE X e (L2.tC (.ty n))) : WE X K CA W e (L2.tC (.ty n)) (dC (.ty n)) := ⟨h, fun m h H σ ρ Q' S t => t.here S.hr (.ty n)⟩
/-- an own class, a def as a value -/
theorem we_cls {n : Nat} (h : PE X e (L2.tC (.ref (CA n)))) : WE X K CA W e (L2.tC (.ref (CA n))) (dC (.cls n)) := ⟨h, fun m h H σ ρ Q' S t => t.here S.hr (.cls n)⟩
theorem sim_op {r : R2} {f : F2} {tH tH' : TE} (hs : SimR K CA r f) (ha : SimE K CA W tH ta) (hb : SimE K CA W tH' tb) : SimE K CA W (L2.tOp r tH tH') (dOp f ta tb) :=
  fun m h H σ ρ Q' S t => ha m h H σ ρ _ S (t.bind fun x h1 m1 v H1 s1 S1 r1 t1 =>
    hb m1 h1 H1 σ ρ _ (S.move s1 S1) (t1.bind fun y h2 m2 w H2 s2 S2 r2 t2 => hs W σ m2 h2 H2 v w x y Q' S2 (r1.move s2) r2 t2))
theorem we_op {op : Operator} {r : R2} {f : F2} (ho : OpR X (binaryOp op) r) (s : SimR K CA r f) (xa : WE X K CA W a ha ta) (xb : WE X K CA W b hb tb) : WE X K CA W (.BinOp a op b pos) (L2.tOp r ha hb) (dOp f ta tb) :=
  ⟨pe_op ho xa.pe xb.pe, sim_op s xa.sim xb.sim⟩
theorem we_cmp {op : CmpOp} {r : R2} {f : F2} (ho : OpR X (compareOp op) r) (s : SimR K CA r f) (xa : WE X K CA W a ha ta) (xb : WE X K CA W b hb tb) (hm : behindInMarks op b = false) : WE X K CA W (.Compare a [op] [b] pos) (L2.tOp r ha hb) (dOp f ta tb) :=
  ⟨pe_cmpR ho xa.pe xb.pe hm, sim_op s xa.sim xb.sim⟩
theorem asB_inv {m : Mp} {h : CH} {H : Hp} {σ : L2.St} {x : D} {v : V} {Q : Bool → Hp → Prop} (r : Rp K CA m h H v x) (S : HR K CA m h H) (t : PostT K CA W m h H σ Q (asB x h)) : ∃ b, x = .bl b ∧ v = .bl b ∧ Q b H := by
  cases r <;> first
    | exact t.elim
    | exact ⟨_, rfl, rfl, t.here S rfl⟩
theorem sim_B {tH : TE} (h : SimE K CA W tH ta) : SimT K CA W (fun σ H Q => tH σ H fun x H' => ∃ k, x = .bl k ∧ Q k H') (dB ta) := fun m hh H σ ρ Q' S t =>
  h m hh H σ ρ _ S (t.bind fun x h1 m1 v H1 s1 S1 r1 t1 => by
    obtain ⟨b, _, e, q⟩ := asB_inv r1 S1 t1
    exact ⟨b, e, q⟩)
theorem wt_cmp {op : CmpOp} {r : R2} {f : F2} (ho : OpR X (compareOp op) r) (s : SimR K CA r f) (xa : WE X K CA W a ha ta) (xb : WE X K CA W b hb tb) (hm : behindInMarks op b = false) : WT X K CA W (.Compare a [op] [b] pos) (tTest (L2.tOp r ha hb)) (dB (dOp f ta tb)) :=
  ⟨pt_cmpR ho xa.pe xb.pe hm, sim_B (sim_op s xa.sim xb.sim)⟩
theorem wt_val (h : WE X K CA W e ha ta) (he : ∀ whole, isTrue e X.env whole = (do let v ← whole; standAt e.pos; holding [v] (truthy v)) := by intro _; rfl) : WT X K CA W e (L2.tB ha) (dB ta) := ⟨pt_val h.pe he, sim_B h.sim⟩
theorem asB_bind {α β : Type} {RR : Mp → CH → Hp → β → α → Prop} {m : Mp} {h : CH} {H : Hp} {σ : L2.St} {x : D} {v : V} {Q : β → Hp → Prop} {k : Bool → CH → R α} (r : Rp K CA m h H v x) (t : PostG K CA W RR m h H σ Q ((asB x h).bind k)) : ∃ b, x = .bl b ∧ v = .bl b ∧ PostG K CA W RR m h H σ Q (k b h) := by
  cases r <;> first
    | exact t.elim
    | exact ⟨_, rfl, rfl, t⟩
theorem sim_chain {r r' : R2} {f f' : F2} {t1 t2 t3 : TE} (hs : SimR K CA r f) (hs' : SimR K CA r' f') (ha : SimE K CA W t1 ta) (hb : SimE K CA W t2 tb) (hc : SimE K CA W t3 tc) :
    SimE K CA W (L2.tChain r r' t1 t2 t3) (dChain f f' ta tb tc) :=
  fun m h H σ ρ Q' S t => ha m h H σ ρ _ S (t.bind fun x h1 m1 v H1 s1 S1 r1 t1 =>
    hb m1 h1 H1 σ ρ _ (S.move s1 S1) (t1.bind fun y h2 m2 w H2 s2 S2 r2 t2 => hs W σ m2 h2 H2 v w x y _ S2 (r1.move s2) r2 (t2.bind fun z h3 m3 u H3 s3 S3 r3 t3 => by
      obtain ⟨k, rfl, e, t4⟩ := asB_bind r3 t3
      refine ⟨k, e, ?_⟩
      cases k with
      | true => exact hc m3 h3 H3 σ ρ _ (((S.move s1 S1).move s2 S2).move s3 S3) (t4.bind fun q h4 m4 q' H4 s4 S4 r4 t5 => hs' W σ m4 h4 H4 w q' y q Q' S4 ((r2.move s3).move s4) r4 t5)
      | false => exact t4.here S3 (.bl false))))
theorem we_chain {op op' : CmpOp} {r r' : R2} {f f' : F2} (s : SimR K CA r f) (s' : SimR K CA r' f') (xa : WE X K CA W a ha ta) (xb : WE X K CA W b hb tb) (xc : WE X K CA W c hc tc)
    (h : PE X a ha → PE X b hb → PE X c hc → PE X (.Compare a [op, op'] [b, c] pos) (L2.tChain r r' ha hb hc)) : WE X K CA W (.Compare a [op, op'] [b, c] pos) (L2.tChain r r' ha hb hc) (dChain f f' ta tb tc) :=
  ⟨h xa.pe xb.pe xc.pe, sim_chain s s' xa.sim xb.sim xc.sim⟩
theorem wt_chain {op op' : CmpOp} {r r' : R2} {f f' : F2} (s : SimR K CA r f) (s' : SimR K CA r' f') (xa : WE X K CA W a ha ta) (xb : WE X K CA W b hb tb) (xc : WE X K CA W c hc tc)
    (h : PE X a ha → PE X b hb → PE X c hc → PT X (.Compare a [op, op'] [b, c] pos) (tTest (L2.tChain r r' ha hb hc))) : WT X K CA W (.Compare a [op, op'] [b, c] pos) (tTest (L2.tChain r r' ha hb hc)) (dB (dChain f f' ta tb tc)) :=
  ⟨h xa.pe xb.pe xc.pe, sim_B (sim_chain s s' xa.sim xb.sim xc.sim)⟩
theorem WW.wt (h : WW X K CA W e hA tA) : WT X K CA W e hA tA := ⟨h.pe.pt, h.sim⟩
theorem ww_and1 (h : WT X K CA W a hA tA) : WW X K CA W (.BoolOp .And [a] pos) hA tA := ⟨pw_and1 h.pe, h.sim⟩
theorem ww_or1 (h : WT X K CA W a hA tA) : WW X K CA W (.BoolOp .Or [a] pos) hA tA := ⟨pw_or1 h.pe, h.sim⟩
theorem ww_and (h : WT X K CA W a hA tA) (h' : WW X K CA W (.BoolOp .And (b :: rest) pos) hB tB) : WW X K CA W (.BoolOp .And (a :: b :: rest) pos) (L2.tAnd hA hB) (dAnd tA tB) := by
  refine ⟨pw_and h.pe h'.pe, fun m hh H σ ρ Q' S t => h.sim m hh H σ ρ _ S (t.bind fun k h1 m1 k' H1 s1 S1 r1 t1 => ?_)⟩
  cases (show k' = k from r1)
  cases k with
  | true => exact h'.sim m1 h1 H1 σ ρ Q' (S.move s1 S1) t1
  | false => exact t1.here S1 rfl
theorem ww_or (h : WT X K CA W a hA tA) (h' : WW X K CA W (.BoolOp .Or (b :: rest) pos) hB tB) : WW X K CA W (.BoolOp .Or (a :: b :: rest) pos) (L2.tOr hA hB) (dOr tA tB) := by
  refine ⟨pw_or h.pe h'.pe, fun m hh H σ ρ Q' S t => h.sim m hh H σ ρ _ S (t.bind fun k h1 m1 k' H1 s1 S1 r1 t1 => ?_)⟩
  cases (show k' = k from r1)
  cases k with
  | false => exact h'.sim m1 h1 H1 σ ρ Q' (S.move s1 S1) t1
  | true => exact t1.here S1 rfl
theorem wt_not (h : WT X K CA W a hA tA) : WT X K CA W (.UnaryOp .Not a pos) (L2.tNot hA) (dNot tA) :=
  ⟨pt_not h.pe, fun m hh H σ ρ Q' S t => h.sim m hh H σ ρ _ S (t.bind fun k h1 m1 k' H1 s1 S1 r1 t1 => by
    cases (show k' = k from r1)
    exact t1.here S1 rfl)⟩
theorem we_one {op} (h : WE X K CA W a ha ta) : WE X K CA W (.BoolOp op [a] pos) ha ta := ⟨pe_one h.pe, h.sim⟩
theorem we_and (h : WE X K CA W a ha ta) (h' : WE X K CA W (.BoolOp .And (b :: rest) pos) hb tb) : WE X K CA W (.BoolOp .And (a :: b :: rest) pos) (L2.tAndV ha hb) (dAndV ta tb) := by
  refine ⟨pe_and h.pe h'.pe, fun m hh H σ ρ Q' S t => h.sim m hh H σ ρ _ S (t.bind fun x h1 m1 v H1 s1 S1 r1 t1 => ?_)⟩
  obtain ⟨k, rfl, e, t2⟩ := asB_bind r1 t1
  refine ⟨k, e, ?_⟩
  cases k with
  | true => exact h'.sim m1 h1 H1 σ ρ Q' (S.move s1 S1) t2
  | false => exact t2.here S1 (.bl false)
theorem we_or (h : WE X K CA W a ha ta) (h' : WE X K CA W (.BoolOp .Or (b :: rest) pos) hb tb) : WE X K CA W (.BoolOp .Or (a :: b :: rest) pos) (L2.tOrV ha hb) (dOrV ta tb) := by
  refine ⟨pe_or h.pe h'.pe, fun m hh H σ ρ Q' S t => h.sim m hh H σ ρ _ S (t.bind fun x h1 m1 v H1 s1 S1 r1 t1 => ?_)⟩
  obtain ⟨k, rfl, e, t2⟩ := asB_bind r1 t1
  refine ⟨k, e, ?_⟩
  cases k with
  | false => exact h'.sim m1 h1 H1 σ ρ Q' (S.move s1 S1) t2
  | true => exact t2.here S1 (.bl true)
theorem we_not (h : WE X K CA W a ha ta) : WE X K CA W (.UnaryOp .Not a pos) (L2.tNotV ha) (dNotV ta) := by
  refine ⟨pe_not h.pe, fun m hh H σ ρ Q' S t => h.sim m hh H σ ρ _ S (t.bind fun x h1 m1 v H1 s1 S1 r1 t1 => ?_)⟩
  obtain ⟨k, rfl, e, t2⟩ := asB_bind r1 t1
  exact ⟨k, e, t2.here S1 (.bl _)⟩
theorem we_ifExp (h0 : WT X K CA W c hA tA) (h : WE X K CA W a ha ta) (h' : WE X K CA W b hb tb) : WE X K CA W (.IfExp c a b pos) (L2.tIf hA ha hb) (dIf tA ta tb) := by
  refine ⟨pe_ifExp h0.pe h.pe h'.pe, fun m hh H σ ρ Q' S t => h0.sim m hh H σ ρ _ S (t.bind fun k h1 m1 k' H1 s1 S1 r1 t1 => ?_)⟩
  cases (show k' = k from r1)
  cases k with
  | true => exact h.sim m1 h1 H1 σ ρ Q' (S.move s1 S1) t1
  | false => exact h'.sim m1 h1 H1 σ ρ Q' (S.move s1 S1) t1
theorem wa_nil : WA X K CA W [] L2.tNil dNil := ⟨pa_nil, fun m h H σ ρ Q' S t => t.here S.hr .nil⟩
theorem sim_cons (h : SimE K CA W ha ta) (h' : SimA K CA W hs ts) : SimA K CA W (L2.tCons ha hs) (dCons ta ts) := fun m hh H σ ρ Q' S t =>
  h m hh H σ ρ _ S (t.bind fun x h1 m1 v H1 s1 S1 r1 t1 => h' m1 h1 H1 σ ρ _ (S.move s1 S1) (t1.bind fun xs h2 m2 vs H2 s2 S2 r2 t2 => t2.here S2 (.cons (r1.move s2) r2)))
theorem wa_cons (h : WE X K CA W e ha ta) (h' : WA X K CA W es hs ts) (hst : starEach (e :: es) X.env = (false, eval e X.env) :: starEach es X.env := by rfl) : WA X K CA W (e :: es) (L2.tCons ha hs) (dCons ta ts) :=
  ⟨pa_cons h.pe h'.pe hst, sim_cons h.sim h'.sim⟩
theorem post_ite {α β : Type} {RR : Mp → CH → Hp → β → α → Prop} {m : Mp} {h : CH} {H : Hp} {σ : L2.St} {Q : β → Hp → Prop} {c : Prop} [Decidable c] {r : R α} (t : PostG K CA W RR m h H σ Q (if c then r else .no)) : c ∧ PostG K CA W RR m h H σ Q r := by
  by_cases q : c
  · rw [if_pos q] at t; exact ⟨q, t⟩
  · rw [if_neg q] at t; exact t.elim
theorem we_tup {x1} (h : WA X K CA W es hs ts) : WE X K CA W (.Tuple es x1 pos) (L2.tTup hs) (dTup ts) := by
  refine ⟨pe_tup h.pe, fun m hh H σ ρ Q' S t => h.sim m hh H σ ρ _ S (t.bind fun xs h1 m1 vs H1 s1 S1 r1 t1 => ?_)⟩
  obtain ⟨l, t1⟩ := post_ite t1
  exact ⟨by rw [r1.length]; exact l, fun p n => t1.laid S1 n (.tup (S1.fresh n) upd_same (rps_laid S1 n r1))⟩
theorem we_lst (nm : Bool) (h : WA X K CA W es hs ts) : WE X K CA W (.List es pos) (L2.tLst hs) (dLst nm ts) := by
  refine ⟨pe_lst h.pe, fun m hh H σ ρ Q' S t => h.sim m hh H σ ρ _ S (t.bind fun xs h1 m1 vs H1 s1 S1 r1 t1 => ?_)⟩
  obtain ⟨l, t1⟩ := post_ite t1
  exact ⟨by rw [r1.length]; exact l, fun p n => mkL_post S1 n r1 t1⟩
theorem sim_CB {r : List V → Hp → VK → Prop} {f : FD} {tH : TA} (hs : SimC K CA r f) (ha : SimA K CA W tH ts) : SimE K CA W (tCB r tH) (dCB f ts) := fun m h H σ ρ Q' S t =>
  ha m h H σ ρ _ S (t.bind fun xs h1 m1 vs H1 s1 S1 r1 t1 => hs W σ m1 h1 H1 vs xs Q' S1 r1 t1)
/-- a built-in's call: its own rule h -/
theorem we_cb {r : List V → Hp → VK → Prop} {f : FD} (s : SimC K CA r f) (x : WA X K CA W es hs ts) (h : PA X es hs → PE X e (tCB r hs)) : WE X K CA W e (tCB r hs) (dCB f ts) := ⟨h x.pe, sim_CB s x.sim⟩
theorem we_ix {r : R2} {f : F2} (hr : IxR X r) (s : SimR K CA r f) (xa : WE X K CA W a ha ta) (xb : WE X K CA W b hb tb) (hp : PlainIx b := by exact fun _ _ => rfl) : WE X K CA W (.Subscript a b pos) (L2.tOp r ha hb) (dOp f ta tb) :=
  ⟨pe_ix hr xa.pe xb.pe hp, sim_op s xa.sim xb.sim⟩
/-! ### a named object is given free: from here on it is data -/
def fz : D → CH → R D
  | .ref k, h => match h.ob k with
    | some (.lst ds) => .ok (.lst ds) (h.del k)
    | some (.dct kvs) => .ok (.dct kvs) (h.del k)
    | some (.obj c fs) => .ok (.obj c fs) (h.del k)
    | _ => .no
  | _, _ => .no
/-- .. if it is one -/
def fzI : D → CH → R D
  | .ref k, h => fz (.ref k) h
  | d, h => .ok d h
theorem fz_post {m : Mp} {h : CH} {H : Hp} {σ : L2.St} {v : V} {x : D} {Q' : VK} (S : HR K CA m h H) (r : Rp K CA m h H v x) (t : PostE K CA W m h H σ Q' (fz x h)) : Q' v H := by
  cases r with
  | @ref k l =>
    unfold fz at t
    simp only at t
    have nl : ∀ o, h.ob k = some o → ¬ Live m (h.del k) (m k) := fun o e z => (live_del S e z).2 rfl
    split at t
    · rename_i ds e
      have x := (S.ob k _ e).2
      cases x with
      | lst q r => exact t m _ H (stp_del S e trivial) (S.del e trivial) (.lst (nl _ e) q (r.move (stp_del S e trivial)))
    · rename_i ds e
      have x := (S.ob k _ e).2
      cases x with
      | dct q en r => exact t m _ H (stp_del S e trivial) (S.del e trivial) (.dct (nl _ e) q rfl en (r.move (stp_del S e trivial)))
    · rename_i c ds e
      have x := (S.ob k _ e).2
      cases x with
      | obj q en r => exact t m _ H (stp_del S e trivial) (S.del e trivial) (.obj (nl _ e) q en (r.move (stp_del S e trivial)))
    · exact t.elim
  | _ => exact t.elim
theorem fzI_post {m : Mp} {h : CH} {H : Hp} {σ : L2.St} {v : V} {x : D} {Q' : VK} (S : HR K CA m h H) (r : Rp K CA m h H v x) (t : PostE K CA W m h H σ Q' (fzI x h)) : Q' v H := by
  cases r with
  | ref l => exact fz_post S (.ref l) t
  | lst n e r => exact t.here S (.lst n e r)
  | tup n e r => exact t.here S (.tup n e r)
  | ktup e r => exact t.here S (.ktup e r)
  | dct n e c en r => exact t.here S (.dct n e c en r)
  | obj n e en r => exact t.here S (.obj n e en r)
  | scr n e => exact t.here S (.scr n e)
  | kscr e => exact t.here S (.kscr e)
  | non => exact t.here S .non
  | bl b => exact t.here S (.bl b)
  | int b => exact t.here S (.int b)
  | str b => exact t.here S (.str b)
  | ty b => exact t.here S (.ty b)
  | cls b => exact t.here S (.cls b)
  | exc n e x en r => exact t.here S (.exc n e x en r)
theorem we_fz (h : WE X K CA W e ha ta) : WE X K CA W e ha (dUn fz ta) := ⟨h.pe, fun m hh H σ ρ Q' S t => h.sim m hh H σ ρ Q' S (t.bind fun x h1 m1 v H1 s1 S1 r1 t1 => fz_post S1 r1 t1)⟩
theorem we_fzI (h : WE X K CA W e ha ta) : WE X K CA W e ha (dUn fzI ta) := ⟨h.pe, fun m hh H σ ρ Q' S t => h.sim m hh H σ ρ Q' S (t.bind fun x h1 m1 v H1 s1 S1 r1 t1 => fzI_post S1 r1 t1)⟩
end
end CM
namespace CM
open PySem PySem.Spec PyProof.Rows L2

/-! ### what a value holds -/
def lstOf (h : CH) : D → Option (List D)
  | .lst ds => some ds
  | .ref k => match h.ob k with
    | some (.lst ds) => some ds
    | some (.lkl ds) => some ds
    | _ => none
  | _ => none
def seqOf (h : CH) : D → Option (List D)
  | .lst ds => some ds
  | .tup ds => some ds
  | .ref k => match h.ob k with
    | some (.lst ds) => some ds
    | some (.lkl ds) => some ds
    | _ => none
  | _ => none
def dctOf (h : CH) : D → Option (List (Key × D))
  | .dct kvs => some kvs
  | .ref k => match h.ob k with
    | some (.dct kvs) => some kvs
    | some (.lck kvs) => some kvs
    | _ => none
  | _ => none
def flatD : D → Bool
  | .non | .bl _ | .int _ | .str _ => true
  | _ => false
def eqF : D → D → Bool
  | .non, .non => true
  | .bl a, .bl b => a == b
  | .bl a, .int j => (if a then 1 else 0) == j
  | .int i, .bl b => i == (if b then 1 else 0)
  | .int i, .int j => i == j
  | .str x, .str y => x == y
  | _, _ => false
/-- flat data that == tells apart by kind and value -/
def scalD : D → D → Bool
  | .int _, .bl _ => false
  | .bl _, .int _ => false
  | x, y => flatD x && flatD y
/-- as the library's data -/
def toP (h : CH) : Nat → D → Option PyData
  | 0, _ => none
  | n + 1, d => match d with
    | .non => some .none
    | .bl b => some (.bool b)
    | .int i => some (.int i)
    | .str x => some (.str x)
    | .lst xs => (xs.mapM (toP h n)).map .list
    | .tup xs => (xs.mapM (toP h n)).map .tuple
    | .ref k => match h.ob k with
      | some (.lst xs) => (xs.mapM (toP h n)).map .list
      | _ => none
    | _ => none
def keyD : D → Option Key
  | .int i => some (.inl i)
  | .str x => some (.inr x)
  | _ => none
def dGet (kvs : List (Key × D)) (k : Key) : Option D := (kvs.find? fun kv => decide (kv.1 = k)).map (·.2)
def dPut (ps : List (Key × D)) (k : Key) (d : D) : List (Key × D) :=
  if (ps.any fun p => decide (p.1 = k)) = true then ps.map (fun p => if p.1 = k then (p.1, d) else p)
  else ps ++ [(k, d)]

section
variable {K : PySem.W.Frag} {CA : CAs} {m : Mp} {h : CH} {H : Hp} {v : V} {d : D}
theorem sq_emp {a : Addr} {xs : List V} (h : SqT K (fun _ => none) a xs) : SqT K H a xs := by
  rcases h with h | h
  · rcases h with h | ⟨o, h⟩ <;> cases h
  · exact .inr h
theorem sl_emp {a : Addr} {xs : List V} (h : SqL K (fun _ => none) a xs) : SqL K H a xs := by
  rcases h with h | h
  · rcases h with h | ⟨o, h⟩ <;> cases h
  · exact .inr h
theorem rp_lst (S : HR K CA m h H) {ds : List D} (r : Rp K CA m h H v d) (e : lstOf h d = some ds) : ∃ a xs, v = .ref a ∧ H a = some (.lst xs) ∧ RpAll K CA m h H xs ds := by
  cases r with
  | lst n e1 r => cases e; exact ⟨_, _, rfl, e1, r⟩
  | ref l =>
    simp only [lstOf] at e
    split at e
    · rename_i q
      cases e
      have x := (S.ob _ _ q).2
      cases x with
      | lst e1 r => exact ⟨_, _, rfl, e1, r⟩
    · rename_i q
      cases e
      have x := (S.ob _ _ q).2
      cases x with
      | lkl e1 r => exact ⟨_, _, rfl, e1, r⟩
    · cases e
  | _ => cases e
theorem rp_tup {ds : List D} (r : Rp K CA m h H v (.tup ds)) : ∃ a xs, v = .ref a ∧ SqT K H a xs ∧ RpAll K CA m h H xs ds := by
  cases r with
  | tup n e r => exact ⟨_, _, rfl, .of e, r⟩
  | ktup e r => exact ⟨_, _, rfl, sq_emp e, r⟩
theorem rp_seq (S : HR K CA m h H) {ds : List D} (r : Rp K CA m h H v d) (e : seqOf h d = some ds) : ∃ a xs, v = .ref a ∧ (SqL K H a xs ∨ SqT K H a xs) ∧ RpAll K CA m h H xs ds := by
  cases d with
  | tup es =>
    cases e
    obtain ⟨a, xs, e1, e2, r2⟩ := rp_tup r
    exact ⟨a, xs, e1, .inr e2, r2⟩
  | lst es =>
    obtain ⟨a, xs, e1, e2, r2⟩ := rp_lst S r (show lstOf h (.lst es) = some ds from e)
    exact ⟨a, xs, e1, .inl (.of e2), r2⟩
  | ref k =>
    obtain ⟨a, xs, e1, e2, r2⟩ := rp_lst S r (show lstOf h (.ref k) = some ds from e)
    exact ⟨a, xs, e1, .inl (.of e2), r2⟩
  | _ => cases e
theorem rp_dct (S : HR K CA m h H) {ds : List (Key × D)} (r : Rp K CA m h H v d) (e : dctOf h d = some ds) : ∃ a o kvs, v = .ref a ∧ H a = some o ∧ core o = .dK kvs ∧ kvs.map (·.1) = ds.map (·.1) ∧ RpAll K CA m h H (kvs.map (·.2)) (ds.map (·.2)) := by
  cases r with
  | dct n e1 c en r => cases e; exact ⟨_, _, _, rfl, e1, c, en, r⟩
  | ref l =>
    simp only [dctOf] at e
    split at e
    · rename_i q
      cases e
      have x := (S.ob _ _ q).2
      cases x with
      | dct e1 en r => exact ⟨_, _, _, rfl, e1, rfl, en, r⟩
    · rename_i q
      cases e
      have x := (S.ob _ _ q).2
      cases x with
      | lck e1 en r => exact ⟨_, _, _, rfl, e1, rfl, en, r⟩
    · cases e
  | _ => cases e
theorem dget_core {a : Addr} {o : HO} {kvs : List (Key × V)} {k : Key} (e : H a = some o) (c : core o = .dK kvs) : DGet H a (kV k) (valV kvs k) := by
  rcases core_dK c with rfl | ⟨ob, rfl⟩
  · exact .inl ⟨kvs, k, .inl e, rfl, rfl⟩
  · exact .inl ⟨kvs, k, .inr ⟨ob, e⟩, rfl, rfl⟩
theorem rp_key {y : D} {k : Key} (r : Rp K CA m h H v y) (e : keyD y = some k) : v = kV k := by
  cases r <;> first | (cases e; rfl) | cases e
theorem rp_flat (r : Rp K CA m h H v d) (f : flatD d = true) : flatV v = true := by cases r <;> first | rfl | cases f
theorem rp_flats {vs : List V} {ds : List D} (r : RpAll K CA m h H vs ds) (f : ds.all flatD = true) : vs.all flatV = true := by
  induction vs generalizing ds with
  | nil => rfl
  | cons x vs ih => cases r with
    | cons h1 h2 =>
      rw [List.all_cons, Bool.and_eq_true] at f ⊢
      exact ⟨rp_flat h1 f.1, ih h2 f.2⟩
theorem rp_eqV {y x : V} {e c : D} (r : Rp K CA m h H y e) (r' : Rp K CA m h H x c) (f : flatD e = true) (f' : flatD c = true) : eqV y x = eqF e c := by
  cases r <;> first
    | (cases f; done)
    | (cases r' <;> first | rfl | (cases f'; done))
theorem rp_inV {x : V} {c : D} {vs : List V} {ds : List D} (r : RpAll K CA m h H vs ds) (r' : Rp K CA m h H x c) (f : ds.all flatD = true) (f' : flatD c = true) : inV x vs = ds.any fun e => eqF e c := by
  unfold inV
  induction vs generalizing ds with
  | nil => cases r; rfl
  | cons y vs ih => cases r with
    | cons h1 h2 =>
      rw [List.all_cons, Bool.and_eq_true] at f
      rw [List.any_cons, List.any_cons, ih h2 f.2, rp_eqV h1 r' f.1 f']
theorem rp_scal {y x : V} {e c : D} (r : Rp K CA m h H y e) (r' : Rp K CA m h H x c) (s : scalD e c = true) : scal y x = true ∧ decide (y = x) = eqF e c := by
  cases r <;> first
    | (cases r' <;> first
      | exact ⟨rfl, rfl⟩
      | exact ⟨rfl, dec_int⟩
      | exact ⟨rfl, dec_bl⟩
      | exact ⟨rfl, dec_str⟩
      | cases s)
    | (cases s; done)
    | (cases c <;> cases s; done)
theorem rp_dget {k : Key} : ∀ {kvs : List (Key × V)} {ds : List (Key × D)}, kvs.map (·.1) = ds.map (·.1) → RpAll K CA m h H (kvs.map (·.2)) (ds.map (·.2)) →
    (∃ v d, valV kvs k = some v ∧ dGet ds k = some d ∧ Rp K CA m h H v d) ∨ (valV kvs k = none ∧ dGet ds k = none)
  | [], [], _, _ => .inr ⟨rfl, rfl⟩
  | [], _ :: _, e, _ => by simp at e
  | _ :: _, [], e, _ => by simp at e
  | p :: kvs, q :: ds, e, r => by
    obtain ⟨pk, pv⟩ := p
    obtain ⟨qk, qv⟩ := q
    simp only [List.map_cons, List.cons.injEq] at e
    obtain ⟨e1, e2⟩ := e
    subst e1
    cases r with
    | cons r1 r2 =>
      by_cases h : pk = k
      · subst h
        exact .inl ⟨pv, qv, by simp [valV], by simp [dGet], r1⟩
      · rcases rp_dget (k := k) e2 r2 with ⟨v, d, h1, h2, h3⟩ | ⟨h1, h2⟩
        · exact .inl ⟨v, d, by rw [valV_neg h]; exact h1, by simp only [dGet, List.find?_cons, decide_eq_false h]; exact h2, h3⟩
        · exact .inr ⟨by rw [valV_neg h]; exact h1, by simp only [dGet, List.find?_cons, decide_eq_false h]; exact h2⟩
theorem keys_any {κ α β : Type} {k : κ} [DecidableEq κ] : ∀ {kvs : List (κ × α)} {ds : List (κ × β)}, kvs.map (·.1) = ds.map (·.1) → (kvs.any fun kv => decide (kv.1 = k)) = (ds.any fun kv => decide (kv.1 = k))
  | [], [], _ => rfl
  | [], _ :: _, e => by simp at e
  | _ :: _, [], e => by simp at e
  | p :: kvs, q :: ds, e => by
    simp only [List.map_cons, List.cons.injEq] at e
    rw [List.any_cons, List.any_cons, e.1, keys_any e.2]
theorem rp_dput {k : Key} {kvs : List (Key × V)} {ds : List (Key × D)} (e : kvs.map (·.1) = ds.map (·.1)) (r : RpAll K CA m h H (kvs.map (·.2)) (ds.map (·.2))) (r' : Rp K CA m h H v d) :
    (putK kvs k v).map (·.1) = (dPut ds k d).map (·.1) ∧ RpAll K CA m h H ((putK kvs k v).map (·.2)) ((dPut ds k d).map (·.2)) := by
  unfold putK dPut
  rw [keys_any e]
  by_cases q : (ds.any fun kv => decide (kv.1 = k)) = true
  · rw [if_pos q, if_pos q]
    clear q
    induction kvs generalizing ds with
    | nil => cases ds with
      | nil => exact ⟨rfl, .nil⟩
      | cons => simp at e
    | cons p kvs ih => cases ds with
      | nil => simp at e
      | cons q ds =>
        simp only [List.map_cons, List.cons.injEq] at e
        cases r with
        | cons r1 r2 =>
          obtain ⟨i1, i2⟩ := ih e.2 r2
          simp only [List.map_cons]
          by_cases hk : q.1 = k
          · rw [if_pos (e.1.trans hk), if_pos hk]
            exact ⟨by rw [i1, e.1], .cons r' i2⟩
          · rw [if_neg (fun z => hk (e.1.symm.trans z)), if_neg hk]
            exact ⟨by rw [i1, e.1], .cons r1 i2⟩
  · rw [if_neg q, if_neg q]
    simp only [List.map_append, List.map_cons, List.map_nil]
    exact ⟨by rw [e], r.append (.cons r' .nil)⟩
theorem dPut_length (ds : List (Key × D)) (k : Key) (d : D) : (dPut ds k d).length ≤ ds.length + 1 := by
  unfold dPut
  split <;> simp
/-! ### data as the library's -/
theorem rp_dps_of {f : D → Option PyData} (ih : ∀ (d : D) (v : V) (p : PyData), Rp K CA m h H v d → f d = some p → Dp K H v p) : ∀ (ds : List D) (vs : List V) (ps : List PyData), RpAll K CA m h H vs ds → ds.mapM f = some ps → DpAll K H vs ps
  | [], _, _, r, e => by cases r; simp at e; subst e; exact .nil
  | d :: ds, _, _, r, e => by
    cases r with
    | cons h1 h2 =>
      simp only [List.mapM_cons, Option.bind_eq_bind, Option.bind_eq_some_iff, Option.pure_def, Option.some.injEq] at e
      obtain ⟨p, e1, ps, e2, rfl⟩ := e
      exact .cons (ih d _ p h1 e1) (rp_dps_of ih ds _ ps h2 e2)
theorem rp_dp (S : HR K CA m h H) : ∀ (n : Nat) (d : D) (v : V) (p : PyData), Rp K CA m h H v d → toP h n d = some p → Dp K H v p
  | 0, d, _, _, _, e => by cases d <;> cases e
  | n + 1, .non, _, _, r, e => by cases r; simp only [toP, Option.some.injEq] at e; subst e; exact .non
  | n + 1, .bl b, _, _, r, e => by cases r; simp only [toP, Option.some.injEq] at e; subst e; exact .bl b
  | n + 1, .int b, _, _, r, e => by cases r; simp only [toP, Option.some.injEq] at e; subst e; exact .int b
  | n + 1, .str b, _, _, r, e => by cases r; simp only [toP, Option.some.injEq] at e; subst e; exact .str b
  | n + 1, .lst ds, _, _, r, e => by
    simp only [toP, Option.map_eq_some_iff] at e
    obtain ⟨ps, e1, rfl⟩ := e
    obtain ⟨a, xs, rfl, e2, r2⟩ := rp_lst S r rfl
    exact .lst (.of e2) (rp_dps_of (rp_dp S n) ds xs ps r2 e1)
  | n + 1, .tup ds, _, _, r, e => by
    simp only [toP, Option.map_eq_some_iff] at e
    obtain ⟨ps, e1, rfl⟩ := e
    obtain ⟨a, xs, rfl, e2, r2⟩ := rp_tup r
    exact .tup e2 (rp_dps_of (rp_dp S n) ds xs ps r2 e1)
  | n + 1, .ref k, _, _, r, e => by
    simp only [toP] at e
    split at e
    · rename_i ds q
      simp only [Option.map_eq_some_iff] at e
      obtain ⟨ps, e1, rfl⟩ := e
      obtain ⟨a, xs, rfl, e2, r2⟩ := rp_lst S r (show lstOf h (.ref k) = some ds by simp only [lstOf, q])
      exact .lst (.of e2) (rp_dps_of (rp_dp S n) ds xs ps r2 e1)
    · cases e
  | n + 1, .dct _, _, _, _, e => by simp [toP] at e
  | n + 1, .obj _ _, _, _, _, e => by simp [toP] at e
  | n + 1, .scr _, _, _, _, e => by simp [toP] at e
  | n + 1, .ty _, _, _, _, e => by simp [toP] at e
  | n + 1, .cls _, _, _, _, e => by simp [toP] at e
  | n + 1, .exc _ _, _, _, _, e => by simp [toP] at e
end

/-! ### operations -/
instance {i j : Int} : Decidable (CMul i j) := by unfold CMul; infer_instance
instance {i j : Int} : Decidable (CDiv i j) := by unfold CDiv; infer_instance
instance {i j : Int} : Decidable (CPow i j) := by unfold CPow; infer_instance
/-- + -/
def fAdd (nm : Bool) : F2 := fun x y h => match x, y with
  | .int i, .int j => .ok (.int (i + j)) h
  | .str a, .str b => if a.length + b.length ≤ sizeLine then .ok (.str (a ++ b)) h else .no
  | .tup a, .tup b => if a ≠ [] ∧ a.length + b.length ≤ sizeLine then .ok (.tup (a ++ b)) h else .no
  | x, y => match lstOf h x, lstOf h y with
    | some a, some b => if a.length + b.length ≤ sizeLine then mkL nm (a ++ b) h else .no
    | _, _ => .no
def fSubI : F2 := fun x y h => match x, y with
  | .int i, .int j => .ok (.int (i - j)) h
  | _, _ => .no
def fMul (nm : Bool) : F2 := fun x y h => match x, y with
  | .int i, .int j => if CMul i j then .ok (.int (i * j)) h else .no
  | x, .int k => match lstOf h x with
    | some ds => if -(2 ^ 63) ≤ k ∧ k < 2 ^ 63 ∧ ds.length * k.toNat ≤ sizeLine then mkL nm (List.replicate k.toNat ds).flatten h else .no
    | none => .no
  | _, _ => .no
def fDiv : F2 := fun x y h => match x, y with
  | .int i, .int j => if CDiv i j then .ok (.int (i / j)) h else .no
  | _, _ => .no
def fMod : F2 := fun x y h => match x, y with
  | .int i, .int j => if 0 < j then .ok (.int (i % j)) h else .no
  | _, _ => .no
def fPow : F2 := fun x y h => match x, y with
  | .int i, .int j => if CPow i j then .ok (.int (i ^ j.toNat)) h else .no
  | _, _ => .no
def fB (f : Int → Int → Bool) : F2 := fun x y h => match x, y with
  | .int i, .int j => .ok (.bl (f i j)) h
  | _, _ => .no
def bneg (neg b : Bool) : Bool := if neg then !b else b
def fEq (neg : Bool) : F2 := fun x y h => if scalD x y = true then .ok (.bl (bneg neg (eqF x y))) h else match toP h 10 x, toP h 10 y with
  | some p, some q => if SeqAt.shaped p = true ∧ SeqAt.shaped q = true then .ok (.bl (bneg neg (PyData.eqv p q))) h else .no
  | _, _ => .no
def isNon : D → Bool
  | .non => true
  | _ => false
def fIsN (neg : Bool) : F2 := fun x y h => match y with
  | .non => .ok (.bl (bneg neg (isNon x))) h
  | _ => .no
/-- x in y -/
def fIn (neg : Bool) : F2 := fun x y h => match seqOf h y with
  | some ds => if flatD x = true ∧ ds.all flatD = true then .ok (.bl (bneg neg (ds.any fun e => eqF e x))) h else .no
  | none => match dctOf h y, keyD x with
    | some kvs, some k => .ok (.bl (bneg neg (dGet kvs k).isSome)) h
    | _, _ => .no
/-- x[y] -/
def fIx : F2 := fun x y h => match x, y with
  | .str z, .int i => if z.length ≤ sizeLine then (match atI z.cps.toList i with
    | some c => .ok (.str ⟨#[c]⟩) h
    | none => .no) else .no
  | x, y => match seqOf h x, y with
    | some ds, .int i => (match atI ds i with
      | some v => .ok v h
      | none => .no)
    | _, _ => match dctOf h x, keyD y with
      | some kvs, some k => (match dGet kvs k with
        | some v => .ok v h
        | none => .no)
      | _, _ => .no
section
variable {X : Cx} {K : PySem.W.Frag} {CA : CAs} {W : WX} {m : Mp} {h : CH} {H : Hp} {σ : L2.St}
abbrev rAddU (K : PySem.W.Frag) : R2 := fun x y H Q => (rI0 (fun i j => .int (i + j)) x y H Q) ∨ (rCat x y H Q) ∨ (rCatT K x y H Q) ∨ (∃ i j, x = .str i ∧ y = .str j ∧ i.length + j.length ≤ sizeLine ∧ Q (.str (i ++ j)) H)
theorem add_lst {nm : Bool} {x y : D} {v w : V} {Q' : VK} (S : HR K CA m h H) (rx : Rp K CA m h H v x) (ry : Rp K CA m h H w y)
    (t : PostE K CA W m h H σ Q' (match lstOf h x, lstOf h y with | some a, some b => if a.length + b.length ≤ sizeLine then mkL nm (a ++ b) h else .no | _, _ => .no)) : rCat v w H Q' := by
  split at t
  · rename_i a b e1 e2
    obtain ⟨l, t⟩ := post_ite t
    obtain ⟨a, xs, rfl, e1, r1⟩ := rp_lst S rx e1
    obtain ⟨b, ys, rfl, e2, r2⟩ := rp_lst S ry e2
    exact ⟨a, b, xs, ys, rfl, rfl, e1, e2, by rw [r1.length, r2.length]; exact l, fun p n => mkL_post S n (r1.append r2) t⟩
  · exact t.elim
theorem sim_add {nm : Bool} : SimR K CA (rAddU K) (fAdd nm) := by
  intro W σ m h H x y dx dy Q' S rx ry t
  unfold fAdd at t
  split at t
  · cases rx; cases ry; exact .inl ⟨_, _, rfl, rfl, t.here S (.int _)⟩
  · cases rx; cases ry
    obtain ⟨l, t⟩ := post_ite t
    exact .inr (.inr (.inr ⟨_, _, rfl, rfl, l, t.here S (.str _)⟩))
  · obtain ⟨⟨l1, l2⟩, t⟩ := post_ite t
    obtain ⟨a, xs, rfl, e1, r1⟩ := rp_tup rx
    obtain ⟨b, ys, rfl, e2, r2⟩ := rp_tup ry
    refine .inr (.inr (.inl ⟨a, b, xs, ys, rfl, rfl, e1, e2, fun z => l1 ?_, by rw [r1.length, r2.length]; exact l2, fun z => ?_, fun _ p n => ?_⟩))
    · subst z; cases r1; rfl
    · subst z; cases r2
      rw [List.append_nil] at t
      exact t.here S rx
    · exact t.laid S n (.tup (S.fresh n) upd_same (rps_laid S n (r1.append r2)))
  · exact .inr (.inl (add_lst S rx ry t))
theorem op_addU (hK : X.K = K := by rfl) : OpR X (binaryOp .Add) (rAddU K) := by subst hK; exact op_add.or (op_cat.or (op_catT.or op_add_str))
theorem sim_subI : SimR K CA (rI0 fun i j => .int (i - j)) fSubI := by
  intro W σ m h H x y dx dy Q' S rx ry t
  unfold fSubI at t
  split at t
  · cases rx; cases ry; exact ⟨_, _, rfl, rfl, t.here S (.int _)⟩
  · exact t.elim
theorem op_mulU : OpR X (binaryOp .Mult) (fun x y H Q => rI CMul (fun i j => .int (i * j)) x y H Q ∨ rRep x y H Q) := op_mul.or op_rep
theorem rp_rep {vs : List V} {ds : List D} (r : RpAll K CA m h H vs ds) : ∀ n : Nat, RpAll K CA m h H (List.replicate n vs).flatten (List.replicate n ds).flatten
  | 0 => by simp; exact .nil
  | n + 1 => by
    rw [List.replicate_succ, List.replicate_succ, List.flatten_cons, List.flatten_cons]
    exact r.append (rp_rep r n)
theorem sim_mul {nm : Bool} : SimR K CA (fun x y H Q => rI CMul (fun i j => .int (i * j)) x y H Q ∨ rRep x y H Q) (fMul nm) := by
  intro W σ m h H x y dx dy Q' S rx ry t
  unfold fMul at t
  split at t
  · obtain ⟨c, t⟩ := post_ite t
    cases rx; cases ry; exact .inl ⟨_, _, rfl, rfl, c, t.here S (.int _)⟩
  · split at t
    · rename_i e
      obtain ⟨⟨c1, c2, c3⟩, t⟩ := post_ite t
      obtain ⟨a, xs, rfl, e1, r1⟩ := rp_lst S rx e
      cases ry
      exact .inr ⟨a, _, xs, rfl, rfl, e1, c1, c2, by rw [r1.length]; exact c3, fun p n => mkL_post S n (rp_rep r1 _) t⟩
    · exact t.elim
  · exact t.elim
theorem sim_div : SimR K CA (rI CDiv fun i j => .int (i / j)) fDiv := by
  intro W σ m h H x y dx dy Q' S rx ry t
  unfold fDiv at t
  split at t
  · obtain ⟨c, t⟩ := post_ite t
    cases rx; cases ry; exact ⟨_, _, rfl, rfl, c, t.here S (.int _)⟩
  · exact t.elim
theorem sim_mod : SimR K CA (rI (fun _ j => 0 < j) fun i j => .int (i % j)) fMod := by
  intro W σ m h H x y dx dy Q' S rx ry t
  unfold fMod at t
  split at t
  · obtain ⟨c, t⟩ := post_ite t
    cases rx; cases ry; exact ⟨_, _, rfl, rfl, c, t.here S (.int _)⟩
  · exact t.elim
theorem sim_pow : SimR K CA (rI CPow fun i j => .int (i ^ j.toNat)) fPow := by
  intro W σ m h H x y dx dy Q' S rx ry t
  unfold fPow at t
  split at t
  · obtain ⟨c, t⟩ := post_ite t
    cases rx; cases ry; exact ⟨_, _, rfl, rfl, c, t.here S (.int _)⟩
  · exact t.elim
theorem sim_cB {f : Int → Int → Bool} : SimR K CA (rI0 fun i j => .bl (f i j)) (fB f) := by
  intro W σ m h H x y dx dy Q' S rx ry t
  unfold fB at t
  split at t
  · cases rx; cases ry; exact ⟨_, _, rfl, rfl, t.here S (.bl _)⟩
  · exact t.elim
theorem sim_eq : SimR K CA (fun x y H Q => rEq x y H Q ∨ rEqD K x y H Q) (fEq false) := by
  intro W σ m h H x y dx dy Q' S rx ry t
  unfold fEq at t
  split at t
  · rename_i c
    obtain ⟨s, e⟩ := rp_scal rx ry c
    exact .inl ⟨s, by rw [e]; exact t.here S (.bl _)⟩
  · split at t
    · rename_i p q e1 e2
      obtain ⟨⟨c1, c2⟩, t⟩ := post_ite t
      exact .inr ⟨p, q, rp_dp S _ dx x p rx e1, rp_dp S _ dy y q ry e2, c1, c2, t.here S (.bl _)⟩
    · exact t.elim
theorem op_eqU (hu : X.A.units + 64 < cLine) (hK : X.K = K := by rfl) : OpR X (compareOp .Eq) (fun x y H Q => rEq x y H Q ∨ rEqD K x y H Q) := by subst hK; exact op_eq.or (op_eqD hu)
theorem sim_ne : SimR K CA (fun x y H Q => rNe x y H Q ∨ rNeD K x y H Q) (fEq true) := by
  intro W σ m h H x y dx dy Q' S rx ry t
  unfold fEq at t
  split at t
  · rename_i c
    obtain ⟨s, e⟩ := rp_scal rx ry c
    exact .inl ⟨s, by rw [e]; exact t.here S (.bl _)⟩
  · split at t
    · rename_i p q e1 e2
      obtain ⟨⟨c1, c2⟩, t⟩ := post_ite t
      exact .inr ⟨p, q, rp_dp S _ dx x p rx e1, rp_dp S _ dy y q ry e2, c1, c2, t.here S (.bl _)⟩
    · exact t.elim
theorem op_neU (hu : X.A.units + 64 < cLine) (hK : X.K = K := by rfl) : OpR X (compareOp .NotEq) (fun x y H Q => rNe x y H Q ∨ rNeD K x y H Q) := by subst hK; exact op_ne.or (op_neD hu)
theorem sim_isN : SimR K CA (fun x y H Q => y = .non ∧ Q (.bl (decide (x = .non))) H) (fIsN false) := by
  intro W σ m h H x y dx dy Q' S rx ry t
  unfold fIsN at t
  split at t
  · cases ry
    refine ⟨rfl, ?_⟩
    cases rx <;> exact t.here S (.bl _)
  · exact t.elim
theorem sim_notN : SimR K CA (fun x y H Q => y = .non ∧ Q (.bl (!decide (x = .non))) H) (fIsN true) := by
  intro W σ m h H x y dx dy Q' S rx ry t
  unfold fIsN at t
  split at t
  · cases ry
    refine ⟨rfl, ?_⟩
    cases rx <;> exact t.here S (.bl _)
  · exact t.elim
def rDIn (neg : Bool) : R2 := fun y x H Q => ∃ a o, x = .ref a ∧ DGet H a y o ∧ Q (.bl (if neg then !o.isSome else o.isSome)) H
theorem op_inDct (hu : X.A.units + 1 < cLine) : OpR X (compareOp .In) (rDIn false) := by
  intro pins s σ H y x u v Q I ry rx h
  obtain ⟨a, o, rfl, g, q⟩ := h
  cases rx
  exact d_in hu I g ry fun s3 I3 => ⟨.bl o.isSome, H, I3, rfl, q⟩
theorem op_notInDct (hu : X.A.units + 1 < cLine) : OpR X (compareOp .NotIn) (rDIn true) := by
  intro pins s σ H y x u v Q I ry rx h
  obtain ⟨a, o, rfl, g, q⟩ := h
  cases rx
  exact d_notIn hu I g ry fun s3 I3 => ⟨.bl (!o.isSome), H, I3, rfl, q⟩
theorem sim_in {neg : Bool} : SimR K CA (fun x y H Q => rIn K neg x y H Q ∨ rDIn neg x y H Q) (fIn neg) := by
  intro W σ m h H x y dx dy Q' S rx ry t
  unfold fIn at t
  split at t
  · rename_i ds e
    obtain ⟨⟨f, fs⟩, t⟩ := post_ite t
    obtain ⟨a, xs, rfl, e1, r1⟩ := rp_seq S ry e
    refine .inl ⟨a, xs, rfl, e1, rp_flat rx f, rp_flats r1 fs, ?_⟩
    rw [rp_inV r1 rx fs f]
    exact t.here S (.bl _)
  · split at t
    · rename_i kvs k e ek
      obtain ⟨a, o, hk, rfl, e1, c, en, r⟩ := rp_dct S ry e
      have ek := rp_key rx ek
      subst ek
      refine .inr ⟨a, valV hk k, rfl, dget_core e1 c, ?_⟩
      rcases rp_dget (k := k) en r with ⟨v, d, h1, h2, _⟩ | ⟨h1, h2⟩
      · rw [h1]; rw [h2] at t; exact t.here S (.bl _)
      · rw [h1]; rw [h2] at t; exact t.here S (.bl _)
    · exact t.elim
theorem op_inU (hu : X.A.units + 1 < cLine) (hK : X.K = K := by rfl) : OpR X (compareOp .In) (fun x y H Q => rIn K false x y H Q ∨ rDIn false x y H Q) := by subst hK; exact op_in_seq.or (op_inDct hu)
theorem op_notInU (hu : X.A.units + 1 < cLine) (hK : X.K = K := by rfl) : OpR X (compareOp .NotIn) (fun x y H Q => rIn K true x y H Q ∨ rDIn true x y H Q) := by subst hK; exact op_notIn_seq.or (op_notInDct hu)
theorem ix_dct (hu : X.A.units + 1 < cLine) : IxR X (fun x y H Q => ∃ a v, x = .ref a ∧ DGet H a y (some v) ∧ Q v H) := by
  intro value slice pins s σ H x y v u Q I rx ry h hs
  obtain ⟨a, z, rfl, g, q⟩ := h
  cases rx
  exact tail_any (dict_typeIs I g) PySem.F.slot_dict_getitem.lookup (d_getItem hu I g ry fun w' s3 I3 rw' => ⟨z, H, I3, rw', q⟩) hs
abbrev rIxU (K : PySem.W.Frag) : R2 := fun x y H Q => rIx K x y H Q ∨ ∃ a v, x = .ref a ∧ DGet H a y (some v) ∧ Q v H
theorem ixU (hu : X.A.units + 1 < cLine) (hK : X.K = K := by rfl) : IxR X (rIxU K) := by subst hK; exact ix_seq.or (ix_dct hu)
theorem atI_rp {vs : List V} {ds : List D} {i : Int} {d : D} (r : RpAll K CA m h H vs ds) (e : atI ds i = some d) : ∃ v, atI vs i = some v ∧ Rp K CA m h H v d := by
  unfold atI at e ⊢
  rw [r.length]
  cases q : ixN ds.length i with
  | none => rw [q] at e; cases e
  | some j =>
    rw [q] at e
    exact r.getD e
theorem sim_ix : SimR K CA (rIxU K) fIx := by
  intro W σ m h H x y dx dy Q' S rx ry t
  unfold fIx at t
  split at t
  · obtain ⟨l, t⟩ := post_ite t
    split at t
    · rename_i c e
      cases rx; cases ry
      exact .inl (.inr (.inr ⟨_, _, c, rfl, rfl, l, e, t.here S (.str _)⟩))
    · exact t.elim
  · split at t
    · rename_i ds i e _
      split at t
      · rename_i d ea
        obtain ⟨a, xs, rfl, e1, r1⟩ := rp_seq S rx e
        cases ry
        obtain ⟨w, e2, r2⟩ := atI_rp r1 ea
        rcases e1 with e1 | e1
        · exact .inl (.inl ⟨a, xs, _, w, rfl, rfl, e1, e2, t.here S r2⟩)
        · exact .inl (.inr (.inl ⟨a, xs, _, w, rfl, rfl, e1, e2, t.here S r2⟩))
      · exact t.elim
    · split at t
      · rename_i kvs k e ek
        split at t
        · rename_i d eg
          obtain ⟨a, o, hk, rfl, e1, c, en, r⟩ := rp_dct S rx e
          have e2 := rp_key ry ek
          subst e2
          rcases rp_dget (k := k) en r with ⟨w, d, h1, h2, h3⟩ | ⟨_, h2⟩
          · rw [h2] at eg
            cases eg
            refine .inr ⟨a, w, rfl, ?_, t.here S h3⟩
            rw [← h1]
            exact dget_core e1 c
          · rw [h2] at eg; cases eg
        · exact t.elim
      · exact t.elim
end
end CM
namespace CM
open PySem PySem.Spec PyProof.Rows L2

/-! ### statements -/
section
variable (K : PySem.W.Frag) (CA : CAs) (W : WX)
def PostS (m : Mp) (h : CH) (H : Hp) (D' : Ends) : RS → Prop
  | .nx ρ' h' => ∀ m' σ' H', Stp m h H m' h' H' → SO K CA m' h' H' σ' ρ' → D'.nx σ' H'
  | .rt d h' => ∀ m' v H', Stp m h H m' h' H' → HR K CA m' h' H' → Rp K CA m' h' H' v d → D'.rt v H'
  | .bk ρ' h' => ∀ m' σ' H', Stp m h H m' h' H' → SO K CA m' h' H' σ' ρ' → D'.bk σ' H'
  | .ct ρ' h' => ∀ m' σ' H', Stp m h H m' h' H' → SO K CA m' h' H' σ' ρ' → D'.ct σ' H'
  | .ex ρ' c fs h' => ∀ m' cls dd σ' H', Stp m h H m' h' H' → SO K CA m' h' H' σ' ρ' → XR K CA m' h' H' cls dd c fs → W cls dd σ' H'
  | .no => False
def SimS (tS : TS) (u : SD) : Prop := ∀ (m : Mp) (h : CH) (H : Hp) (σ : L2.St) (ρ : DE) (D' : Ends), SO K CA m h H σ ρ → PostS K CA W m h H D' (u ρ h) → tS D' σ H
end
section
variable (X : Cx) (K : PySem.W.Frag) (CA : CAs) (W : WX)
structure WS (st : Stmt) (tS : TS) (u : SD) : Prop where
  pe : PS X st tS
  sim : SimS K CA W tS u
structure WSs (st : List Stmt) (tS : TS) (u : SD) : Prop where
  pe : PSs X st tS
  sim : SimS K CA W tS u
end
section
variable {K : PySem.W.Frag} {CA : CAs} {W : WX} {m m1 : Mp} {h h1 : CH} {H H1 : Hp} {σ : L2.St} {ρ : DE} {D' : Ends} {α β : Type} {RR : Mp → CH → Hp → β → α → Prop} {Q1 : β → Hp → Prop}
theorem PostS.from {r : RS} (q : PostS K CA W m h H D' r) (s : Stp m h H m1 h1 H1) : PostS K CA W m1 h1 H1 D' r := by
  cases r with
  | nx ρ' h' => exact fun m' σ' H' s' => q m' σ' H' (s.trans s')
  | rt d h' => exact fun m' v H' s' => q m' v H' (s.trans s')
  | bk ρ' h' => exact fun m' σ' H' s' => q m' σ' H' (s.trans s')
  | ct ρ' h' => exact fun m' σ' H' s' => q m' σ' H' (s.trans s')
  | ex ρ' c fs h' => exact fun m' cls dd σ' H' s' => q m' cls dd σ' H' (s.trans s')
  | no => exact q
theorem PostS.bind {r : R α} {k : α → CH → RS} (S : SO K CA m h H σ ρ) (q : PostS K CA W m h H D' (r.toS ρ k))
    (f : ∀ a h1 m1 b H1, Stp m h H m1 h1 H1 → HR K CA m1 h1 H1 → RR m1 h1 H1 b a → PostS K CA W m1 h1 H1 D' (k a h1) → Q1 b H1) : PostG K CA W RR m h H σ Q1 r := by
  cases r with
  | ok a h1 => exact fun m1 b H1 s S1 rr => f a h1 m1 b H1 s S1 rr (q.from s)
  | ex c fs h1 => exact fun m' cls dd H' s S1 x => q m' cls dd σ H' s (S.move s S1) x
  | no => exact q
end
def dNext : SD := fun ρ h => .nx ρ h
def RS.bind (r : RS) (w : SD) : RS := match r with
  | .nx ρ h => w ρ h
  | r => r
def dSeq (u w : SD) : SD := fun ρ h => (u ρ h).bind w
def dIfS (c : TB) (u w : SD) : SD := fun ρ h => (c ρ h).toS ρ fun b h => if b = true then u ρ h else w ρ h
def dRet (t : TD) : SD := fun ρ h => (t ρ h).toS ρ fun d h => .rt d h
def dRetN : SD := fun ρ h => .rt .non h
def dBreak : SD := fun ρ h => .bk ρ h
def dCont : SD := fun ρ h => .ct ρ h
def dDrop (t : TD) : SD := fun ρ h => (t ρ h).toS ρ fun _ h => .nx ρ h
def dNever : SD := fun _ _ => .no
abbrev TGD := D → DE → CH → R DE
abbrev TGDs := List D → DE → CH → R DE
def gdName (i : Nat) : TGD := fun d ρ h => .ok (ρ.set i (some d)) h
def gdNil : TGDs := fun ds ρ h => match ds with
  | [] => .ok ρ h
  | _ => .no
def gdCons (t : TGD) (u : TGDs) : TGDs := fun ds ρ h => match ds with
  | d :: r => (t d ρ h).bind fun ρ h => u r ρ h
  | [] => .no
/-- a tuple's parts -/
def gdTup (n : Nat) (t : TGDs) : TGD := fun d ρ h => match d with
  | .tup ds => if ds.length = n then t ds ρ h else .no
  | _ => .no
/-- a target's storing: no exception may come of it -/
def R.put (r : R DE) (k : SD) : RS := match r with
  | .ok ρ h => k ρ h
  | _ => .no
def dAsg (t : TD) (tg : TGD) : SD := fun ρ h => (t ρ h).toS ρ fun d h => (tg d ρ h).put fun ρ h => .nx ρ h
def dPar (i j : Nat) (ts : TDs) : SD := fun ρ h => (ts ρ h).toS ρ fun ds h => match ds with
  | [x, y] => .nx ((ρ.set i (some x)).set j (some y)) h
  | _ => .no
def dPar3 (i j l : Nat) (ts : TDs) : SD := fun ρ h => (ts ρ h).toS ρ fun ds h => match ds with
  | [x, y, z] => .nx (((ρ.set i (some x)).set j (some y)).set l (some z)) h
  | _ => .no
/-- for, over the items -/
def dForL (tg : TGD) (u : SD) : List D → SD
  | [], ρ, h => .nx ρ h
  | d :: r, ρ, h => (tg d ρ h).put fun ρ1 h1 => match u ρ1 h1 with
    | .nx ρ2 h2 => dForL tg u r ρ2 h2
    | .ct ρ2 h2 => dForL tg u r ρ2 h2
    | .bk ρ2 h2 => .nx ρ2 h2
    | x => x
/-- what is unlocked behind a walk -/
abbrev Unl := Option (Nat × MO)
def unlH : Unl → CH → CH
  | none, h => h
  | some (k, o), h => h.put k o
def RS.unl (u : Unl) : RS → RS
  | .nx ρ h => .nx ρ (unlH u h)
  | .rt d h => .rt d (unlH u h)
  | .bk ρ h => .bk ρ (unlH u h)
  | .ct ρ h => .ct ρ (unlH u h)
  | r => r
def R.unl {α : Type} (u : Unl) : R α → R α
  | .ok a h => .ok a (unlH u h)
  | r => r
abbrev TDw := DE → CH → R (List D × Unl)
def dFor (t : TDw) (tg : TGD) (u : SD) : SD := fun ρ h => (t ρ h).toS ρ fun w h => (dForL tg u w.1 ρ h).unl w.2
/-- while, at most so many turns -/
def dWhile (c : TB) (u : SD) : Nat → SD
  | 0, _, _ => .no
  | n + 1, ρ, h => (c ρ h).toS ρ fun b h1 => if b = true then (match u ρ h1 with
    | .nx ρ2 h2 => dWhile c u n ρ2 h2
    | .ct ρ2 h2 => dWhile c u n ρ2 h2
    | .bk ρ2 h2 => .nx ρ2 h2
    | x => x) else .nx ρ h1

section
variable {K : PySem.W.Frag} {CA : CAs} {W : WX} {t t' : TS} {u w : SD} {tH : TE} {tT : TT} {d : TD} {tB : TB}
theorem sim_next : SimS K CA W tNext dNext := fun m h H σ ρ D' S q => q m σ H .refl S
theorem sim_seq (x : SimS K CA W t u) (y : SimS K CA W t' w) : SimS K CA W (tSeq t t') (dSeq u w) := fun m h H σ ρ D' S q =>
  x m h H σ ρ { D' with nx := t' D' } S (by
    unfold dSeq at q
    cases e : u ρ h with
    | nx ρ' h' => rw [e] at q; exact fun m' σ' H' s S' => y m' h' H' σ' ρ' D' S' (PostS.from (show PostS K CA W m h H D' (w ρ' h') from q) s)
    | rt d h' => rw [e] at q; exact q
    | bk d h' => rw [e] at q; exact q
    | ct d h' => rw [e] at q; exact q
    | ex ρ' c fs h' => rw [e] at q; exact q
    | no => rw [e] at q; exact q)
theorem sim_ifS (hc : SimT K CA W tT tB) (x : SimS K CA W t u) (y : SimS K CA W t' w) : SimS K CA W (tIfS tT t t') (dIfS tB u w) := fun m h H σ ρ D' S q =>
  hc m h H σ ρ _ S (PostS.bind S q fun b h1 m1 b' H1 s1 S1 e q1 => by
    cases (show b' = b from e)
    cases b with
    | true => exact x m1 h1 H1 σ ρ D' (S.move s1 S1) q1
    | false => exact y m1 h1 H1 σ ρ D' (S.move s1 S1) q1)
theorem sim_ret (x : SimE K CA W tH d) : SimS K CA W (tRet tH) (dRet d) := fun m h H σ ρ D' S q =>
  x m h H σ ρ _ S (PostS.bind S q fun a h1 m1 v H1 s1 S1 r q1 => q1 m1 v H1 .refl S1 r)
theorem sim_drop (x : SimE K CA W tH d) : SimS K CA W (tDrop tH) (dDrop d) := fun m h H σ ρ D' S q =>
  x m h H σ ρ _ S (PostS.bind S q fun a h1 m1 v H1 s1 S1 r q1 => q1 m1 σ H1 .refl (S.move s1 S1))
end
/-! ### targets -/
section
variable (K : PySem.W.Frag) (CA : CAs) (W : WX)
def PostT' (m : Mp) (h : CH) (H : Hp) (σ : L2.St) (sl : List Nat) (Q' : L2.St → Hp → Prop) : R DE → Prop
  | .ok ρ' h' => ∀ m' σ' H', Stp m h H m' h' H' → SO K CA m' h' H' σ' ρ' → σ'.length = σ.length → (∀ j, j ∉ sl → σ'[j]? = σ[j]?) → Q' σ' H'
  | .ex _ _ _ => False
  | .no => False
def SimG (sl : List Nat) (gH : TG) (tg : TGD) : Prop := ∀ (m : Mp) (h : CH) (H : Hp) (σ : L2.St) (ρ : DE) (v : V) (d : D) (Q' : L2.St → Hp → Prop), SO K CA m h H σ ρ → Rp K CA m h H v d → PostT' K CA m h H σ sl Q' (tg d ρ h) → gH v σ H Q'
def SimGs (sl : List Nat) (gH : TGs) (tg : TGDs) : Prop := ∀ (m : Mp) (h : CH) (H : Hp) (σ : L2.St) (ρ : DE) (vs : List V) (ds : List D) (Q' : L2.St → Hp → Prop), SO K CA m h H σ ρ → RpAll K CA m h H vs ds → PostT' K CA m h H σ sl Q' (tg ds ρ h) → gH vs σ H Q'
end
section
variable (X : Cx) (K : PySem.W.Frag) (CA : CAs) (W : WX)
structure WG (e : Expr) (sl : List Nat) (gH : TG) (tg : TGD) : Prop where
  pe : PG X e gH
  sim : SimG K CA sl gH tg
structure WGs (es : List Expr) (sl : List Nat) (gH : TGs) (tg : TGDs) : Prop where
  pe : PGs X es gH
  sim : SimGs K CA sl gH tg
end
section
variable {X : Cx} {K : PySem.W.Frag} {CA : CAs} {W : WX} {e a b c : Expr} {es : List Expr} {gH : TG} {tg : TGD} {gHs : TGs} {tgs : TGDs} {pos : Pos} {st : Stmt} {sts rest x y : List Stmt} {tu tw : TS} {u w : SD} {ha : TE} {ta : TD} {hs : TA} {ts : TDs} {hB : TT} {tB : TB}
theorem PostT'.mono {m m1 : Mp} {h h1 : CH} {H H1 : Hp} {σ σ1 : L2.St} {s1 s2 : List Nat} {Q' : L2.St → Hp → Prop} {r : R DE} (q : PostT' K CA m h H σ s2 Q' r) (s : Stp m h H m1 h1 H1) (l : σ1.length = σ.length) (k : ∀ j, j ∉ s2 → σ1[j]? = σ[j]?) (sub : ∀ j, j ∈ s1 → j ∈ s2) : PostT' K CA m1 h1 H1 σ1 s1 Q' r := by
  cases r with
  | ok ρ' h' => exact fun m' σ' H' s' S' l' k' => q m' σ' H' (s.trans s') S' (l'.trans l) fun j hj => (k' j fun z => hj (sub j z)).trans (k j hj)
  | ex c fs h' => exact q
  | no => exact q
theorem sim_gName {i : Nat} : SimG K CA [i] (gName i) (gdName i) := fun m h H σ ρ v d Q' S r k => k m _ H .refl (S.set i r) (by simp) fun j hj => List.getElem?_set_ne (fun z => hj (by simp [z]))
theorem wg_name {i : Nat} (h : PG X e (gName i)) : WG X K CA e [i] (gName i) (gdName i) := ⟨h, sim_gName⟩
theorem wgs_nil : WGs X K CA [] [] gNil gdNil := ⟨pgs_nil, fun m h H σ ρ vs ds Q' S r k => by
  cases r with
  | nil => exact ⟨rfl, k m σ H .refl S rfl fun _ _ => rfl⟩
  | cons => exact k.elim⟩
theorem wgs_cons {s1 s2 : List Nat} (h : WG X K CA e s1 gH tg) (h' : WGs X K CA es s2 gHs tgs) (hst : (assignEach (e :: es) X.env).map (·.2) = assign e X.env :: (assignEach es X.env).map (·.2) := by rfl) : WGs X K CA (e :: es) (s1 ++ s2) (gCons gH gHs) (gdCons tg tgs) := by
  refine ⟨pgs_cons h.pe h'.pe hst, fun m hh H σ ρ vs ds Q' S r q => ?_⟩
  cases r with
  | nil => exact q.elim
  | @cons v vs d ds r1 r2 =>
    refine ⟨v, vs, rfl, h.sim m hh H σ ρ v d _ S r1 ?_⟩
    simp only [gdCons] at q
    cases e : tg d ρ hh with
    | ok ρ' h1 =>
      rw [e] at q
      exact fun m1 σ1 H1 st1 S1 l1 k1 => h'.sim m1 h1 H1 σ1 ρ' vs ds Q' S1 (r2.move st1) (PostT'.mono (show PostT' K CA m hh H σ (s1 ++ s2) Q' (tgs ds ρ' h1) from q) st1 l1 (fun j hj => k1 j fun z => hj (List.mem_append_left _ z)) fun j hj => List.mem_append_right _ hj)
    | ex c fs h1 => rw [e] at q; exact q
    | no => rw [e] at q; exact q
theorem wg_tup {n k : Nat} {sl : List Nat} (hc : X.calm = true) (h : WGs X K CA es sl gHs tgs) (hn : (assignEach es X.env).length = n := by rfl) (hst : (assignEach es X.env).findIdx? (·.1) = none := by rfl) (hK : X.K = K := by rfl) : WG X K CA (.Tuple es k pos) sl (gTup K n gHs) (gdTup n tgs) := by
  subst hK
  refine ⟨pg_tup hc h.pe hn hst, fun m hh H σ ρ v d Q' S r q => ?_⟩
  cases d with
  | tup ds =>
    simp only [gdTup] at q
    by_cases hl : ds.length = n
    · rw [if_pos hl] at q
      obtain ⟨a, xs, rfl, e1, r1⟩ := rp_tup r
      exact ⟨a, xs, rfl, e1, r1.length.trans hl, h.sim m hh H σ ρ xs ds Q' S r1 q⟩
    · rw [if_neg hl] at q; exact q.elim
  | _ => exact q.elim

/-! ### statements' rules -/
theorem wss_nil : WSs X K CA W [] tNext dNext := ⟨pss_nil, sim_next⟩
theorem wss_cons (h : WS X K CA W st tu u) (h' : WSs X K CA W rest tw w) : WSs X K CA W (st :: rest) (tSeq tu tw) (dSeq u w) := ⟨pss_cons h.pe h'.pe, sim_seq h.sim h'.sim⟩
theorem wss_one (h : WS X K CA W st tu u) : WSs X K CA W [st] tu u := ⟨pss_one h.pe, h.sim⟩
theorem wss_never : WSs X K CA W sts tNever dNever := ⟨pss_never, fun m h H σ ρ D' S q => q.elim⟩
theorem ws_never : WS X K CA W st tNever dNever := ⟨ps_never, fun m h H σ ρ D' S q => q.elim⟩
theorem ws_pass : WS X K CA W (.Pass pos) tNext dNext := ⟨ps_pass, sim_next⟩
theorem ws_break : WS X K CA W (.Break pos) tBreak dBreak := ⟨ps_break, fun m h H σ ρ D' S q => q m σ H .refl S⟩
theorem ws_continue : WS X K CA W (.Continue pos) tCont dCont := ⟨ps_continue, fun m h H σ ρ D' S q => q m σ H .refl S⟩
theorem ws_doc {x j pos'} : WS X K CA W (.Expr (.Constant (.str x) j pos) pos') tNext dNext := ⟨ps_doc, sim_next⟩
theorem ws_expr (h : WE X K CA W e ha ta) (hsw : swapsWith e none pos.line X.env = pure false := by rfl) : WS X K CA W (.Expr e pos) (tDrop ha) (dDrop ta) := ⟨ps_expr h.pe hsw, sim_drop h.sim⟩
theorem ws_ret (h : WE X K CA W e ha ta) : WS X K CA W (.Return (some e) pos) (tRet ha) (dRet ta) := ⟨ps_ret h.pe, sim_ret h.sim⟩
theorem ws_retN : WS X K CA W (.Return none pos) tRetN dRetN := ⟨ps_retN, fun m h H σ ρ D' S q => q m .non H .refl S.hr .non⟩
theorem ws_if (h0 : WT X K CA W c hB tB) (h : WSs X K CA W x tu u) (h' : WSs X K CA W y tw w) : WS X K CA W (.If c x y pos) (tIfS hB tu tw) (dIfS tB u w) := ⟨ps_if h0.pe h.pe h'.pe, sim_ifS h0.sim h.sim h'.sim⟩
theorem put_post {sl : List Nat} {m : Mp} {h : CH} {H : Hp} {σ : L2.St} {D' : Ends} {r : R DE} {k : SD} {Q' : L2.St → Hp → Prop} (q : PostS K CA W m h H D' (r.put k)) (f : ∀ ρ' h' m' σ' H', Stp m h H m' h' H' → SO K CA m' h' H' σ' ρ' → PostS K CA W m' h' H' D' (k ρ' h') → Q' σ' H') : PostT' K CA m h H σ sl Q' r := by
  cases r with
  | ok ρ' h2 => exact fun m2 σ2 H2 s2 S2 _ _ => f ρ' h2 m2 σ2 H2 s2 S2 (PostS.from (show PostS K CA W m h H D' (k ρ' h2) from q) s2)
  | ex c fs h2 => exact q
  | no => exact q
theorem sim_asg {sl : List Nat} (h : SimE K CA W ha ta) (hg : SimG K CA sl gH tg) : SimS K CA W (tAsg ha gH) (dAsg ta tg) := fun m hh H σ ρ D' S q =>
  h m hh H σ ρ _ S (PostS.bind S q fun d h1 m1 v H1 s1 S1 r q1 => hg m1 h1 H1 σ ρ v d _ (S.move s1 S1) r (put_post q1 fun ρ' h' m' σ' H' s' S' q' => q' m' σ' H' .refl S'))
theorem ws_asg {sl : List Nat} (h : WE X K CA W e ha ta) (hg : WG X K CA a sl gH tg) (hsw : swapsWithSole [a] e pos.line X.env = pure false := by rfl) (hw : swappedStores [a] e X.env = pure none := by rfl)
    (h1 : (assignEach [a] X.env).map (·.2) = [assign a X.env] := by rfl) : WS X K CA W (.Assign [a] e pos) (tAsg ha gH) (dAsg ta tg) := ⟨ps_asg h.pe hg.pe hsw hw h1, sim_asg h.sim hg.sim⟩
/-- x = e: hp is the rule ps_set .. -/
theorem ws_set {i : Nat} (h : WE X K CA W e ha ta) (hp : PE X e ha → PS X st (tAsg ha (gName i))) : WS X K CA W st (tAsg ha (gName i)) (dAsg ta (gdName i)) :=
  ⟨hp h.pe, sim_asg h.sim sim_gName⟩
theorem ws_par {i j : Nat} (h : WA X K CA W es hs ts) (hp : PA X es hs → PS X st (tPar i j hs)) : WS X K CA W st (tPar i j hs) (dPar i j ts) := by
  refine ⟨hp h.pe, fun m hh H σ ρ D' S q => h.sim m hh H σ ρ _ S (PostS.bind S q fun ds h1 m1 vs H1 s1 S1 r q1 => ?_)⟩
  split at q1
  · cases r with
    | @cons v _ _ _ r1 r2 =>
      cases r2 with
      | @cons v' _ _ _ r2 r3 =>
        cases r3
        exact ⟨v, v', rfl, q1 m1 _ H1 .refl (((S.move s1 S1).set i r1).set j r2)⟩
  · exact q1.elim
theorem ws_par3 {i j l : Nat} (h : WA X K CA W es hs ts) (hp : PA X es hs → PS X st (tPar3 i j l hs)) : WS X K CA W st (tPar3 i j l hs) (dPar3 i j l ts) := by
  refine ⟨hp h.pe, fun m hh H σ ρ D' S q => h.sim m hh H σ ρ _ S (PostS.bind S q fun ds h1 m1 vs H1 s1 S1 r q1 => ?_)⟩
  split at q1
  · cases r with
    | @cons v _ _ _ r1 r2 =>
      cases r2 with
      | @cons v' _ _ _ r2 r3 =>
        cases r3 with
        | @cons v2 _ _ _ r3 r4 =>
          cases r4
          exact ⟨v, v', v2, rfl, q1 m1 _ H1 .refl ((((S.move s1 S1).set i r1).set j r2).set l r3)⟩
  · exact q1.elim
end
/-! ### loops -/
section
variable (K : PySem.W.Frag) (CA : CAs) (W : WX)
/-- the iterator J gives the items ds, whatever the body does -/
structure Wk (m : Mp) (h : CH) (H : Hp) (J : It) (ds : List D) : Prop where
  go : ∀ (i : Nat) (m' : Mp) (h' : CH) (H' : Hp) (d : D), Sz m h H m' h' H' → HR K CA m' h' H' → ds[i]? = some d → J.go i H' ∧ ∀ x H2, J.yld i H' x H2 → (∀ a u, H' a = some u → H2 a = some u) ∧ Rp K CA m' h' H2 x d
  stop : ∀ (m' : Mp) (h' : CH) (H' : Hp), Sz m h H m' h' H' → HR K CA m' h' H' → J.stop ds.length H'
/-- .. and what was locked for the walk may be unlocked -/
def UnlOk (H0 : Hp) (m : Mp) (h : CH) (H : Hp) (m' : Mp) (h' : CH) (H' : Hp) : Unl → Prop
  | none => True
  | some (k, o) => ∀ m2 h2 H2, Stp m' h' H' m2 h2 H2 → HR K CA m2 h2 H2 → ∃ o' H3, h2.ob k = some o' ∧ (H3 = H2 ∨ ∃ od hk, H2 (m2 k) = some (.frz od (.dK hk)) ∧ (∀ o' u', H0 (m2 k) ≠ some (.frz o' u')) ∧ H3 = upd H2 (m2 k) (.dK hk)) ∧
      Stp m h H m2 (h2.put k o) H3 ∧ HR K CA m2 (h2.put k o) H3
def PostI (H0 : Hp) (m : Mp) (h : CH) (H : Hp) (σ : L2.St) (R' : It → Hp → Prop) : R (List D × Unl) → Prop
  | .ok w h' => ∀ m' J H', Stp m h H m' h' H' → HR K CA m' h' H' → Wk K CA m' h' H' J w.1 → UnlOk K CA H0 m h H m' h' H' w.2 → R' J H'
  | .ex c fs h' => ∀ m' cls dd H', Stp m h H m' h' H' → HR K CA m' h' H' → XR K CA m' h' H' cls dd c fs → W cls dd σ H'
  | .no => False
def SimI (H0 : Hp) (wH : TI) (t : TDw) : Prop := ∀ (m : Mp) (h : CH) (H : Hp) (σ : L2.St) (ρ : DE) (R' : It → Hp → Prop), SO K CA m h H σ ρ → PostI K CA W H0 m h H σ R' (t ρ h) → wH σ H R'
end
section
variable (X : Cx) (K : PySem.W.Frag) (CA : CAs) (W : WX)
structure WI (tg iter : Expr) (wH : TI) (t : TDw) : Prop where
  pe : PI X tg iter wH
  sim : SimI K CA W X.H_0 wH t
end
/-- a state behind which something locked is unlocked -/
def UnlP (X : Cx) (P : Hp → Prop) (H : Hp) : Prop := P H ∨ ∃ d od u, H d = some (.frz od u) ∧ (∀ o' u', X.H_0 d ≠ some (.frz o' u')) ∧ P (upd H d u)
def unlE (X : Cx) (D : Ends) : Ends := ⟨fun σ => UnlP X (D.nx σ), fun v => UnlP X (D.rt v), fun σ => UnlP X (D.bk σ), fun σ => UnlP X (D.ct σ)⟩
theorem unl_inv {X : Cx} {pins : List (Addr × Obj)} {σ : L2.St} {H : Hp} {s : Shared} {P : Hp → Prop} (I : Inv X pins σ H s) (q : UnlP X P H) : ∃ H', Inv X pins σ H' s ∧ P H' := by
  rcases q with q | ⟨d, od, u, e, n, q⟩
  · exact ⟨H, I, q⟩
  · exact ⟨_, I.unlock e n, q⟩
theorem ps_unl {X : Cx} {st : Stmt} {t : TS} (x : PS X st t) : PS X st (fun D σ H => t (unlE X D) σ H) := by
  refine ⟨fun pins s σ H D I hw => thn (x.run pins s σ H _ I hw) fun f s1 q => ?_⟩
  cases f with
  | next => obtain ⟨σ', H', I2, q⟩ := q; obtain ⟨H2, I3, q⟩ := unl_inv I2 q; exact ⟨σ', H2, I3, q⟩
  | brk => obtain ⟨σ', H', I2, q⟩ := q; obtain ⟨H2, I3, q⟩ := unl_inv I2 q; exact ⟨σ', H2, I3, q⟩
  | cont => obtain ⟨σ', H', I2, q⟩ := q; obtain ⟨H2, I3, q⟩ := unl_inv I2 q; exact ⟨σ', H2, I3, q⟩
  | ret v => obtain ⟨y, σ', H', I2, r, q⟩ := q; obtain ⟨H2, I3, q⟩ := unl_inv I2 q; exact ⟨y, σ', H2, I3, r, q⟩
theorem pe_unl {X : Cx} {e : Expr} {t : TE} (x : PE X e t) : PE X e (fun σ H Q => t σ H fun v => UnlP X (Q v)) := by
  refine ⟨fun pins s σ H Q I hw => thn (x.run pins s σ H _ I hw) fun v s1 q => ?_⟩
  obtain ⟨y, H1, I2, r, q⟩ := q
  obtain ⟨H2, I3, q⟩ := unl_inv I2 q
  exact ⟨y, H2, I3, r, q⟩
def itemsD (h : CH) : D → Option (List D)
  | .lst ds => some ds
  | .tup ds => some ds
  | .scr ns => some (ns.map D.int)
  | _ => none
/-- what is walked: the items -/
def lockD (d : D) (h : CH) : R (List D × Unl) := match d with
  | .ref k => match h.ob k with
    | some (.lst ds) => .ok (ds, some (k, .lst ds)) (h.put k (.lkl ds))
    | some (.lkl ds) => .ok (ds, none) h
    | _ => .no
  | _ => .no
def dSeqI (t : TD) : TDw := fun ρ h => (t ρ h).bind fun d h => match itemsD h d with
  | some ds => .ok (ds, none) h
  | none => lockD d h
def rgD (a : Int) (n : Nat) : List D := (List.range n).map fun (i : Nat) => D.int (a + (i : Int))
def dRng1 (ts : TDs) : TDw := fun ρ h => (ts ρ h).bind fun ds h => match ds with
  | [.int n] => if -(2 ^ 62) ≤ n ∧ n < 2 ^ 62 then .ok (rgD 0 n.toNat, none) h else .no
  | _ => .no
def dRng2 (ts : TDs) : TDw := fun ρ h => (ts ρ h).bind fun ds h => match ds with
  | [.int a, .int b] => if -(2 ^ 62) ≤ a ∧ a < 2 ^ 62 ∧ -(2 ^ 62) ≤ b ∧ b < 2 ^ 62 then .ok (rgD a (b - a).toNat, none) h else .no
  | _ => .no
def enD : Nat → List D → List D
  | _, [] => []
  | i, d :: r => .tup [.int (i : Int), d] :: enD (i + 1) r
def dEnum (ts : TDs) : TDw := fun ρ h => (ts ρ h).bind fun ds h => match ds with
  | [.lst xs] => .ok (enD 0 xs, none) h
  | _ => .no
section
variable {X : Cx} {K : PySem.W.Frag} {CA : CAs} {W : WX} {e a b l c tge iter : Expr} {es : List Expr} {gH : TG} {tg : TGD} {pos p : Pos} {st : Stmt} {sts rest body : List Stmt} {tb : TS} {u w : SD} {ha : TE} {ta : TD} {hs : TA} {wH : TI} {ts : TDs} {ti : TDw} {hB : TT} {tB : TB}
theorem sim_forL {sl : List Nat} (s' : SimG K CA sl gH tg) (s'' : SimS K CA W tb u) {m : Mp} {h : CH} {H : Hp} {σ : L2.St} {ρ : DE} {D' : Ends} {J : It} {ds : List D} (S : SO K CA m h H σ ρ) (wk : Wk K CA m h H J ds) (q : PostS K CA W m h H D' (dForL tg u ds ρ h)) :
    ∃ (Wl : Nat → Nat → L2.St → Hp → Prop), (∃ n, Wl 0 n σ H) ∧ ∀ i n σ' H', Wl i n σ' H' → (J.stop i H' ∧ D'.nx σ' H') ∨ (J.go i H' ∧ ∃ Nx : L2.St → Hp → Prop, (∀ σ3 H3, Nx σ3 H3 → ∃ n', n' < n ∧ Wl (i + 1) n' σ3 H3) ∧
      ∀ x H2, J.yld i H' x H2 → gH x σ' H2 fun σ2 H2' => tb { D' with nx := Nx, ct := Nx, bk := D'.nx } σ2 H2') := by
  refine ⟨fun i n σ' H' => n + i = ds.length ∧ ∃ m' h' ρ', Stp m h H m' h' H' ∧ SO K CA m' h' H' σ' ρ' ∧ PostS K CA W m' h' H' D' (dForL tg u (ds.drop i) ρ' h'), ⟨ds.length, rfl, m, h, ρ, .refl, S, q⟩, ?_⟩
  rintro i n σ' H' ⟨hm, m', h', ρ', st', S', q'⟩
  cases hd : ds[i]? with
  | none =>
    have hlen : ds.length ≤ i := List.getElem?_eq_none_iff.mp hd
    obtain rfl : i = ds.length := by omega
    rw [List.drop_length] at q'
    exact .inl ⟨wk.stop m' h' H' st'.toSz S'.hr, q' m' σ' H' .refl S'⟩
  | some d =>
    obtain ⟨hlt, ed⟩ := List.getElem?_eq_some_iff.mp hd
    rw [List.drop_eq_getElem_cons hlt, ed] at q'
    obtain ⟨go, yl⟩ := wk.go i m' h' H' d st'.toSz S'.hr hd
    refine .inr ⟨go, fun σ3 H3 => ∃ m3 h3 ρ3, Stp m h H m3 h3 H3 ∧ SO K CA m3 h3 H3 σ3 ρ3 ∧ PostS K CA W m3 h3 H3 D' (dForL tg u (ds.drop (i + 1)) ρ3 h3), fun σ3 H3 n3 => ⟨n - 1, by omega, by omega, n3⟩, fun x H2 y2 => ?_⟩
    obtain ⟨gr, r2⟩ := yl x H2 y2
    have a2 := stp_grow S'.hr gr
    have w2 := S'.hr.grow gr
    have q2 := q'.from a2
    unfold dForL at q2
    refine s' m' h' H2 σ' ρ' x d _ (S'.move a2 w2) r2 (put_post q2 fun ρ4 h4 m4 σ4 H4 s4 S4 q4 => ?_)
    refine s'' m4 h4 H4 σ4 ρ4 _ S4 ?_
    have stp4 : Stp m h H m4 h4 H4 := (st'.trans a2).trans s4
    cases e : u ρ4 h4 with
    | nx ρ5 h5 => rw [e] at q4; exact fun m5 σ5 H5 s5 S5 => ⟨m5, h5, ρ5, stp4.trans s5, S5, q4.from s5⟩
    | ct ρ5 h5 => rw [e] at q4; exact fun m5 σ5 H5 s5 S5 => ⟨m5, h5, ρ5, stp4.trans s5, S5, q4.from s5⟩
    | bk ρ5 h5 => rw [e] at q4; exact q4
    | rt d5 h5 => rw [e] at q4; exact q4
    | ex ρ5 c fs h5 => rw [e] at q4; exact q4
    | no => rw [e] at q4; exact q4
theorem PostI.bindS {m : Mp} {h : CH} {H : Hp} {σ : L2.St} {ρ : DE} {D' : Ends} {H0 : Hp} {r : R (List D × Unl)} {k : List D × Unl → CH → RS} {R' : It → Hp → Prop} (S : SO K CA m h H σ ρ) (q : PostS K CA W m h H D' (r.toS ρ k))
    (f : ∀ w h1 m1 J H1, Stp m h H m1 h1 H1 → HR K CA m1 h1 H1 → Wk K CA m1 h1 H1 J w.1 → UnlOk K CA H0 m h H m1 h1 H1 w.2 → PostS K CA W m h H D' (k w h1) → R' J H1) : PostI K CA W H0 m h H σ R' r := by
  cases r with
  | ok w h1 => exact fun m1 J H1 s S1 wk uo => f w h1 m1 J H1 s S1 wk uo q
  | ex c fs h1 => exact fun m' cls dd H' s S1 x => q m' cls dd σ H' s (S.move s S1) x
  | no => exact q
/-- the end of a walk -/
theorem unl_at {m m1 m2 : Mp} {h h1 h2 : CH} {H H1 H2 : Hp} {u : Unl} {P : Hp → Prop} (s : Stp m h H m1 h1 H1) (uo : UnlOk K CA X.H_0 m h H m1 h1 H1 u) (s2 : Stp m1 h1 H1 m2 h2 H2) (S2 : HR K CA m2 h2 H2)
    (f : ∀ H3, Stp m h H m2 (unlH u h2) H3 → HR K CA m2 (unlH u h2) H3 → (∀ v d, Rp K CA m2 h2 H2 v d → Rp K CA m2 (unlH u h2) H3 v d) → P H3) : UnlP X P H2 := by
  cases u with
  | none => exact .inl (f H2 (s.trans s2) S2 fun _ _ r => r)
  | some p =>
    obtain ⟨k, kvs⟩ := p
    obtain ⟨o', H3, eo, e, s3, S3⟩ := uo m2 h2 H2 s2 S2
    rcases e with rfl | ⟨od, hk, e, n, rfl⟩
    · refine .inl (f _ s3 S3 fun _ _ r => ?_)
      obtain ⟨u, q⟩ := (S2.ob _ _ eo).2.some
      have := r.mv (mv_put (o' := kvs) (u := u) eo)
      rw [upd_eq q] at this
      exact this
    · exact .inr ⟨m2 k, od, _, e, n, f _ s3 S3 fun _ _ r => r.mv (mv_put eo)⟩
theorem post_unl {m m1 : Mp} {h h1 : CH} {H H1 : Hp} {D' : Ends} {r : RS} {u : Unl} (s : Stp m h H m1 h1 H1) (uo : UnlOk K CA X.H_0 m h H m1 h1 H1 u) (q : PostS K CA W m h H D' (r.unl u)) : PostS K CA W m1 h1 H1 (unlE X D') r := by
  have so : ∀ {m2 : Mp} {h2 : CH} {H2 H3 : Hp} {σ : L2.St} {ρ : DE}, SO K CA m2 h2 H2 σ ρ → HR K CA m2 (unlH u h2) H3 → (∀ v d, Rp K CA m2 h2 H2 v d → Rp K CA m2 (unlH u h2) H3 v d) → SO K CA m2 (unlH u h2) H3 σ ρ := fun S2 S3 k => ⟨S3, S2.len, fun i d e => let ⟨v, e1, q⟩ := S2.sl i d e; ⟨v, e1, k v d q⟩⟩
  cases r with
  | nx ρ' h' => exact fun m2 σ2 H2 s2 S2 => unl_at s uo s2 S2.hr fun H3 s3 S3 k => q m2 σ2 H3 s3 (so S2 S3 k)
  | rt d h' => exact fun m2 v H2 s2 S2 r => unl_at s uo s2 S2 fun H3 s3 S3 k => q m2 v H3 s3 S3 (k v d r)
  | bk ρ' h' => exact fun m2 σ2 H2 s2 S2 => unl_at s uo s2 S2.hr fun H3 s3 S3 k => q m2 σ2 H3 s3 (so S2 S3 k)
  | ct ρ' h' => exact fun m2 σ2 H2 s2 S2 => unl_at s uo s2 S2.hr fun H3 s3 S3 k => q m2 σ2 H3 s3 (so S2 S3 k)
  | ex ρ' c fs h' => exact fun m2 cls dd σ2 H2 s2 S2 x => q m2 cls dd σ2 H2 (s.trans s2) S2 x
  | no => exact q
abbrev tForU (X : Cx) (wH : TI) (gH : TG) (tb : TS) : TS := fun D σ H => tFor wH gH tb (unlE X D) σ H
theorem ws_for {sl : List Nat} (hi : WI X K CA W a iter wH ti) (hg : WG X K CA a sl gH tg) (hb : WSs X K CA W body tb u)
    (hp : PI X a iter wH → PG X a gH → PSs X body tb → PS X st (tFor wH gH tb)) : WS X K CA W st (tForU X wH gH tb) (dFor ti tg u) :=
  ⟨ps_unl (hp hi.pe hg.pe hb.pe), fun m h H σ ρ D' S q => hi.sim m h H σ ρ _ S (PostI.bindS S q fun w h1 m1 J H1 s1 S1 wk uo q1 => by
    obtain ⟨Wl, w0, w1⟩ := sim_forL hg.sim hb.sim (S.move s1 S1) wk (post_unl s1 uo q1)
    refine ⟨Wl, w0, fun i n σ' H' hw => ?_⟩
    rcases w1 i n σ' H' hw with z | ⟨z, Nx, z1, z2⟩
    · exact .inl z
    · exact .inr ⟨z, Nx, z1, z2⟩)⟩
/-- a walk's reading, from what is read first -/
theorem PostI.bind {α β : Type} {RR : Mp → CH → Hp → β → α → Prop} {Q1 : β → Hp → Prop} {m : Mp} {h : CH} {H : Hp} {σ : L2.St} {H0 : Hp} {r : R α} {k : α → CH → R (List D × Unl)} {R' : It → Hp → Prop} (q : PostI K CA W H0 m h H σ R' (r.bind k))
    (f : ∀ a h1 m1 b H1, Stp m h H m1 h1 H1 → HR K CA m1 h1 H1 → RR m1 h1 H1 b a → PostI K CA W H0 m h H σ R' (k a h1) → Q1 b H1) : PostG K CA W RR m h H σ Q1 r := by
  cases r with
  | ok a h1 => exact fun m1 b H1 s S rr => f a h1 m1 b H1 s S rr q
  | ex c fs h1 => exact q
  | no => exact q
theorem postI_ite {m : Mp} {h : CH} {H : Hp} {σ : L2.St} {H0 : Hp} {R' : It → Hp → Prop} {c : Prop} [Decidable c] {r : R (List D × Unl)} (t : PostI K CA W H0 m h H σ R' (if c then r else .no)) : c ∧ PostI K CA W H0 m h H σ R' r := by
  by_cases q : c
  · rw [if_pos q] at t; exact ⟨q, t⟩
  · rw [if_neg q] at t; exact t.elim
theorem PostI.walk {m m1 : Mp} {h h1 : CH} {H H1 : Hp} {σ : L2.St} {H0 : Hp} {ds : List D} {J : It} {R' : It → Hp → Prop} (q : PostI K CA W H0 m h H σ R' (.ok (ds, none) h1)) (s : Stp m h H m1 h1 H1) (S : HR K CA m1 h1 H1) (wk : Wk K CA m1 h1 H1 J ds) : R' J H1 := q m1 J H1 s S wk trivial
/-- a list or a tuple is walked -/
def iSeq (K : PySem.W.Frag) (tl : TE) : TI := fun σ H R => tl σ H fun x H1 => ∃ a, x = .ref a ∧ (((∃ xs, SqL K H1 a xs) ∧ R (Itl K a) H1) ∨ ((∃ xs, SqT K H1 a xs) ∧ R (Itt K a) H1))
theorem pi_seq {tl : TE} (hl : PE X l tl) (hK : X.K = K := by rfl) : PI X tge l (iSeq K tl) := by
  subst hK
  refine ⟨fun pins s σ H R I q => thn (hl.run pins s σ H _ I q) fun v s1 hv => ?_⟩
  obtain ⟨x, H1, I1, r1, a, rfl, hq⟩ := hv
  cases r1
  have new : ∀ o, Inv X pins σ H1 { s1 with heap := s1.heap.push o } := fun o => I1.kept (t' := s1.toks) fun b o e => Heap.get?_push_of_some _ e
  have fp : ∀ b ∈ [s1.heap.objs.size], FpOk X pins H1 b := fun b hb => by
    rw [List.mem_singleton] at hb
    rw [hb]
    exact I1.fpOk (Nat.le_refl _) (I1.hok.fresh (Nat.le_refl _))
  rcases hq with ⟨⟨xs, hx⟩, q⟩ | ⟨⟨xs, hx⟩, q⟩
  · obtain ⟨its, _, pl, _⟩ := I1.list hx
    exact wpAny_pyIter_list pl.isList ⟨_, _, _, _, H1, rfl, new _, turn_list a _, ⟨_, Heap.get?_push_size _ rfl, rfl, rfl⟩, fp, q⟩
  · obtain ⟨its, _, pl, _⟩ := I1.tuple hx
    exact wpAny_pyIter_tuple (show s1.heap.IsTuple a its.toArray from pl) ⟨_, _, _, _, H1, rfl, new _, turn_tuple a _, ⟨_, Heap.get?_push_size _ rfl, rfl, rfl⟩, fp, q⟩
section
variable {m : Mp} {h : CH} {H : Hp} {ds : List D} {xs : List V}
theorem wk_list {a : Addr} (k : ∀ m' h' H', Sz m h H m' h' H' → SqL K H' a xs) (r : RpAll K CA m h H xs ds) : Wk K CA m h H (Itl K a) ds :=
  ⟨fun i m' h' H' d s S hd => by
    obtain ⟨v, hv, rv⟩ := r.getD hd
    have e' := k m' h' H' s
    refine ⟨⟨xs, v, e', hv⟩, fun x H2 y => ?_⟩
    obtain ⟨rfl, hy⟩ := y
    have ex := (hy xs e').symm.trans hv
    cases ex
    exact ⟨fun _ _ q => q, rv.mv s.toMv⟩, fun m' h' H' s S => ⟨xs, k m' h' H' s, by rw [r.length]; exact Nat.le_refl _⟩⟩
theorem wk_tup {a : Addr} (k : ∀ m' h' H', Sz m h H m' h' H' → SqT K H' a xs) (r : RpAll K CA m h H xs ds) : Wk K CA m h H (Itt K a) ds :=
  ⟨fun i m' h' H' d s S hd => by
    obtain ⟨v, hv, rv⟩ := r.getD hd
    have e' := k m' h' H' s
    refine ⟨⟨xs, v, e', hv⟩, fun x H2 y => ?_⟩
    obtain ⟨rfl, hy⟩ := y
    have ex := (hy xs e').symm.trans hv
    cases ex
    exact ⟨fun _ _ q => q, rv.mv s.toMv⟩, fun m' h' H' s S => ⟨xs, k m' h' H' s, by rw [r.length]; exact Nat.le_refl _⟩⟩
theorem keep_lst {a : Addr} (n : ¬ Live m h a) (e : H a = some (.lst xs)) : ∀ m' h' H', Sz m h H m' h' H' → SqL K H' a xs := fun m' h' H' s => by
  obtain ⟨_, o, e', l⟩ := s.kp a _ n e trivial
  exact .of (by rw [e', core_lst l.core])
theorem keep_tup {a : Addr} (n : ¬ Live m h a) (e : H a = some (.tup xs)) : ∀ m' h' H', Sz m h H m' h' H' → SqT K H' a xs := fun m' h' H' s => by
  obtain ⟨_, o, e', l⟩ := s.kp a _ n e trivial
  exact .of (by rw [e', core_tup l.core])
theorem all_ints : ∀ ns : List Int, RpAll K CA m h H (ns.map V.int) (ns.map D.int)
  | [] => .nil
  | n :: ns => .cons (.int n) (all_ints ns)
end
theorem wi_seq (h : WE X K CA W l ha ta) (hK : X.K = K := by rfl) : WI X K CA W tge l (iSeq K ha) (dSeqI ta) := by
  refine ⟨pi_seq h.pe hK, fun m hh H σ ρ R' S t => h.sim m hh H σ ρ _ S (PostI.bind t fun d h1 m1 v H1 s1 S1 r1 t1 => ?_)⟩
  cases r1 with
  | lst n e r => exact ⟨_, rfl, .inl ⟨⟨_, .of e⟩, t1.walk s1 S1 (wk_list (keep_lst n e) r)⟩⟩
  | tup n e r => exact ⟨_, rfl, .inr ⟨⟨_, .of e⟩, t1.walk s1 S1 (wk_tup (keep_tup n e) r)⟩⟩
  | ktup e r => exact ⟨_, rfl, .inr ⟨⟨_, sq_emp e⟩, t1.walk s1 S1 (wk_tup (fun _ _ _ _ => sq_emp e) r)⟩⟩
  | scr n e => exact ⟨_, rfl, .inl ⟨⟨_, .inl (.inr ⟨_, e⟩)⟩, t1.walk s1 S1 (wk_list (fun m' h' H' s => by
      obtain ⟨_, o, e', l⟩ := s.kp _ _ n e trivial
      exact .inl (.inr ⟨_, by rw [e', l.frz]⟩)) (all_ints _))⟩⟩
  | kscr e => exact ⟨_, rfl, .inl ⟨⟨_, sl_emp e⟩, t1.walk s1 S1 (wk_list (fun _ _ _ _ => sl_emp e) (all_ints _))⟩⟩
  | @ref k lt =>
    replace t1 : PostI K CA W X.H_0 m hh H σ R' (lockD (.ref k) h1) := t1
    unfold lockD at t1
    simp only at t1
    split at t1
    · rename_i ds eo
      obtain ⟨xs, eH, r, s2, S2⟩ := lockL_ok S1 eo
      refine ⟨m1 k, rfl, .inl ⟨⟨xs, .of eH⟩, t1 m1 _ H1 (s1.trans s2) S2 (wk_list (fun m' h' H' s => ?_) (r.move s2)) ?_⟩⟩
      · obtain ⟨_, q⟩ := s.lk k _ lt put_same id
        exact .of (q.trans eH)
      · intro m2 h2 H2 s3 S3
        obtain ⟨q1, q2, q3⟩ := unlockL_ok S1 eo s3 S3
        exact ⟨_, H2, q1, .inl rfl, s1.trans q2, q3⟩
    · rename_i ds eo
      have x := (S1.ob k _ eo).2
      cases x with
      | @lkl xs _ eH r =>
        refine ⟨m1 k, rfl, .inl ⟨⟨xs, .of eH⟩, t1.walk s1 S1 (wk_list (fun m' h' H' s => ?_) r)⟩⟩
        obtain ⟨_, q⟩ := s.lk k _ lt eo id
        exact .of (q.trans eH)
    · exact t1.elim
  | _ => exact t1.elim
theorem wk_range {m : Mp} {h : CH} {H : Hp} (lo : Int) (n : Nat) : Wk K CA m h H (Itr lo n) (rgD lo n) :=
  ⟨fun i m' h' H' d s S hd => by
    unfold rgD at hd
    rw [List.getElem?_map] at hd
    cases hr : (List.range n)[i]? with
    | none => rw [hr] at hd; cases hd
    | some j =>
      rw [hr] at hd
      obtain ⟨hlt, ej⟩ := List.getElem?_eq_some_iff.mp hr
      rw [List.getElem_range] at ej
      subst ej
      cases hd
      refine ⟨by show i < n; simpa using hlt, fun x H2 y => ?_⟩
      obtain ⟨rfl, rfl⟩ := y
      exact ⟨fun _ _ q => q, .int _⟩, fun m' h' H' s S => by
    show n ≤ (rgD lo n).length
    unfold rgD
    rw [List.length_map, List.length_range]
    exact Nat.le_refl _⟩
theorem wi_rng1 (h : WA X K CA W es hs ts) (hp : PA X es hs → PI X tge l (iRng1 hs)) : WI X K CA W tge l (iRng1 hs) (dRng1 ts) := by
  refine ⟨hp h.pe, fun m hh H σ ρ R' S t => h.sim m hh H σ ρ _ S (PostI.bind t fun ds h1 m1 vs H1 s1 S1 r1 t1 => ?_)⟩
  split at t1
  · rename_i n
    obtain ⟨⟨c1, c2⟩, t1⟩ := postI_ite t1
    cases r1 with
    | cons r1 r2 =>
      cases r1
      cases r2
      exact ⟨n, rfl, c1, c2, t1.walk s1 S1 (wk_range 0 n.toNat)⟩
  · exact t1.elim
theorem wi_rng2 (h : WA X K CA W es hs ts) (hp : PA X es hs → PI X tge l (iRng2 hs)) : WI X K CA W tge l (iRng2 hs) (dRng2 ts) := by
  refine ⟨hp h.pe, fun m hh H σ ρ R' S t => h.sim m hh H σ ρ _ S (PostI.bind t fun ds h1 m1 vs H1 s1 S1 r1 t1 => ?_)⟩
  split at t1
  · rename_i i j
    obtain ⟨c, t1⟩ := postI_ite t1
    cases r1 with
    | cons r1 r2 =>
      cases r1
      cases r2 with
      | cons r2 r3 =>
        cases r2
        cases r3
        exact ⟨i, j, rfl, c, t1.walk s1 S1 (wk_range i (j - i).toNat)⟩
  · exact t1.elim
theorem enD_get : ∀ (xs : List D) (k i : Nat) (d : D), (enD k xs)[i]? = some d → ∃ x, xs[i]? = some x ∧ d = .tup [.int ((k + i : Nat) : Int), x]
  | [], k, i, d, h => by simp [enD] at h
  | x :: xs, k, 0, d, h => by simp [enD] at h; exact ⟨x, rfl, by rw [← h]; rfl⟩
  | x :: xs, k, i + 1, d, h => by
    obtain ⟨y, h1, h2⟩ := enD_get xs (k + 1) i d (by simpa [enD] using h)
    exact ⟨y, by simpa using h1, by rw [h2]; congr 4; omega⟩
theorem enD_length : ∀ (xs : List D) (k : Nat), (enD k xs).length = xs.length
  | [], _ => rfl
  | _ :: xs, k => by simp [enD, enD_length xs (k + 1)]
theorem wk_enum {m : Mp} {h : CH} {H : Hp} {a : Addr} {xs : List V} {ds : List D} (n : ¬ Live m h a) (e : H a = some (.lst xs)) (r : RpAll K CA m h H xs ds) : Wk K CA m h H (Ite K a) (enD 0 ds) :=
  ⟨fun i m' h' H' d s S hd => by
    obtain ⟨y, hy, rfl⟩ := enD_get ds 0 i d hd
    obtain ⟨v, hv, rv⟩ := r.getD hy
    have e' := keep_lst (K := K) n e m' h' H' s
    refine ⟨⟨xs, v, e', hv⟩, fun x H2 yl => ?_⟩
    obtain ⟨T, z, rfl, nT, rfl, hz⟩ := yl
    have ex := (hz xs e').symm.trans hv
    cases ex
    have ri : ((0 + i : Nat) : Int) = ((i : Nat) : Int) := by omega
    rw [ri]
    exact ⟨upd_new nT, .tup (S.fresh nT) upd_same (.cons (.int _) (.cons ((rv.mv s.toMv).move (stp_laid S nT)) .nil))⟩, fun m' h' H' s S => ⟨xs, keep_lst n e m' h' H' s, by rw [enD_length, r.length]; exact Nat.le_refl _⟩⟩
theorem wi_enum (h : WA X K CA W es hs ts) (hp : PA X es hs → PI X tge l (iEnum K hs)) : WI X K CA W tge l (iEnum K hs) (dEnum ts) := by
  refine ⟨hp h.pe, fun m hh H σ ρ R' S t => h.sim m hh H σ ρ _ S (PostI.bind t fun ds h1 m1 vs H1 s1 S1 r1 t1 => ?_)⟩
  split at t1
  · cases r1 with
    | cons r1 r2 =>
      cases r1 with
      | lst n e r =>
        cases r2
        exact ⟨_, _, rfl, .of e, t1.walk s1 S1 (wk_enum n e r)⟩
  · exact t1.elim
theorem sim_while {tC : TT} {tb' : TS} (s : SimT K CA W tC tB) (s' : SimS K CA W tb' u) (N : Nat) : SimS K CA W (tWhile tC tb') (dWhile tB u N) := fun m h H σ ρ D' S q => by
  refine ⟨fun n σ' H' => ∃ m' h' ρ', Stp m h H m' h' H' ∧ SO K CA m' h' H' σ' ρ' ∧ PostS K CA W m' h' H' D' (dWhile tB u n ρ' h'), ⟨N, m, h, ρ, .refl, S, q⟩, ?_⟩
  rintro n σ' H' ⟨m', h', ρ', st', S', q'⟩
  cases n with
  | zero => exact q'.elim
  | succ n =>
    refine s m' h' H' σ' ρ' _ S' (PostS.bind S' q' fun b h1 m1 b' H1 s1 S1 e q1 => ?_)
    cases (show b' = b from e)
    have S1' := S'.move s1 S1
    cases b with
    | false => exact q1 m1 σ' H1 .refl S1'
    | true =>
      refine ⟨fun σ3 H3 => ∃ m3 h3 ρ3, Stp m h H m3 h3 H3 ∧ SO K CA m3 h3 H3 σ3 ρ3 ∧ PostS K CA W m3 h3 H3 D' (dWhile tB u n ρ3 h3), fun σ3 H3 z => ⟨n, Nat.lt_succ_self _, z⟩, ?_⟩
      have stp1 : Stp m h H m1 h1 H1 := st'.trans s1
      refine s' m1 h1 H1 σ' ρ' _ S1' ?_
      replace q1 : PostS K CA W m1 h1 H1 D' (match u ρ' h1 with
        | .nx ρ2 h2 => dWhile tB u n ρ2 h2
        | .ct ρ2 h2 => dWhile tB u n ρ2 h2
        | .bk ρ2 h2 => .nx ρ2 h2
        | x => x) := q1
      cases e : u ρ' h1 with
      | nx ρ5 h5 => rw [e] at q1; exact fun m5 σ5 H5 s5 S5 => ⟨m5, h5, ρ5, stp1.trans s5, S5, q1.from s5⟩
      | ct ρ5 h5 => rw [e] at q1; exact fun m5 σ5 H5 s5 S5 => ⟨m5, h5, ρ5, stp1.trans s5, S5, q1.from s5⟩
      | bk ρ5 h5 => rw [e] at q1; exact q1
      | rt d5 h5 => rw [e] at q1; exact q1
      | ex ρ5 c fs h5 => rw [e] at q1; exact q1
      | no => rw [e] at q1; exact q1
theorem ws_while (N : Nat) (hc : WT X K CA W c hB tB) (hb : WSs X K CA W body tb u) (hp : PT X c hB → PSs X body tb → PS X st (tWhile hB tb)) : WS X K CA W st (tWhile hB tb) (dWhile tB u N) :=
  ⟨hp hc.pe hb.pe, sim_while hc.sim hb.sim N⟩
end
end CM
namespace CM
open PySem PySem.Spec PyProof.Rows L2

/-! ### dicts walked: the dict is locked meanwhile -/
def tLk (X : Cx) (td : TE) : TE := fun σ H Q => td σ H fun x H1 => ∃ d, x = .ref d ∧ ((∃ u, H1 d = some u ∧ Mut (some u) ∧ ∀ od, (∀ o' u', X.H_0 d ≠ some (.frz o' u')) → Q x (upd H1 d (.frz od u))) ∨ Q x H1)
theorem pe_lockA {X : Cx} {e : Expr} {td : TE} (x : PE X e td) : PE X e (tLk X td) := by
  refine ⟨fun pins s σ H Q I hw => thn (x.run pins s σ H _ I hw) fun v s1 q => ?_⟩
  obtain ⟨y, H1, I1, r, d, rfl, q⟩ := q
  rcases q with ⟨u, hd, mu, q⟩ | q
  · obtain ⟨od, I2⟩ := I1.lock hd mu
    exact ⟨_, _, I2, r, q od (I1.nofrz hd mu)⟩
  · exact ⟨_, H1, I1, r, q⟩
def kD : Key → D
  | .inl i => .int i
  | .inr x => .str x
def keysD (kvs : List (Key × D)) : List D := kvs.map fun kv => kD kv.1
def valsD (kvs : List (Key × D)) : List D := kvs.map (·.2)
def pairsD (kvs : List (Key × D)) : List D := kvs.map fun kv => .tup [kD kv.1, kv.2]
def dDictI (its : List (Key × D) → List D) (t : TD) : TDw := fun ρ h => (t ρ h).bind fun d h => match d with
  | .dct kvs => .ok (its kvs, none) h
  | .ref k => match h.ob k with
    | some (.dct kvs) => .ok (its kvs, some (k, .dct kvs)) (h.put k (.lck kvs))
    | some (.lck kvs) => .ok (its kvs, none) h
    | _ => .no
  | _ => .no
/-- iterators over a locked dict -/
def DIt (K : PySem.W.Frag) (CA : CAs) (mk : Addr → Obj → List (Key × V) → It) (its : List (Key × D) → List D) : Prop :=
  ∀ (m : Mp) (h : CH) (H : Hp) (a : Addr) (od : Obj) (hk : List (Key × V)) (kvs : List (Key × D)), (∀ m' h' H', Sz m h H m' h' H' → H' a = some (.frz od (.dK hk))) → hk.map (·.1) = kvs.map (·.1) → RpAll K CA m h H (hk.map (·.2)) (kvs.map (·.2)) → Wk K CA m h H (mk a od hk) (its kvs)
section
variable {X : Cx} {K : PySem.W.Frag} {CA : CAs} {W : WX} {e tge iter : Expr} {ha : TE} {ta : TD} {m : Mp} {h : CH} {H : Hp}
theorem rp_kD (k : Key) : Rp K CA m h H (kV k) (kD k) := by
  cases k with
  | inl i => exact .int i
  | inr x => exact .str x
theorem kv_at {hk : List (Key × V)} {kvs : List (Key × D)} {i : Nat} {k : Key} {d : D} (en : hk.map (·.1) = kvs.map (·.1)) (r : RpAll K CA m h H (hk.map (·.2)) (kvs.map (·.2))) (e : kvs[i]? = some (k, d)) : ∃ v, hk[i]? = some (k, v) ∧ Rp K CA m h H v d := by
  have e2 : (kvs.map (·.2))[i]? = some d := by rw [List.getElem?_map, e]; rfl
  obtain ⟨v, e3, rv⟩ := r.getD e2
  have e1 : (hk.map (·.1))[i]? = some k := by rw [en, List.getElem?_map, e]; rfl
  rw [List.getElem?_map] at e1 e3
  cases q : hk[i]? with
  | none => rw [q] at e1; cases e1
  | some p =>
    rw [q] at e1 e3
    cases e1; cases e3
    exact ⟨_, rfl, rv⟩
theorem len_of {hk : List (Key × V)} {kvs : List (Key × D)} (en : hk.map (·.1) = kvs.map (·.1)) : hk.length = kvs.length := by simpa using congrArg List.length en
theorem dit_keys : DIt K CA Itk keysD := fun m h H a od hk kvs keep en r =>
  ⟨fun i m' h' H' d s S hd => by
    unfold keysD at hd
    rw [List.getElem?_map] at hd
    cases q : kvs[i]? with
    | none => rw [q] at hd; cases hd
    | some p =>
      rw [q] at hd
      cases hd
      obtain ⟨v, e, rv⟩ := kv_at en r q
      have hi := (List.getElem?_eq_some_iff.mp e).1
      refine ⟨⟨keep m' h' H' s, hi⟩, fun x H2 y => ?_⟩
      obtain ⟨rfl, k, v', e', rfl⟩ := y
      rw [e] at e'; cases e'
      exact ⟨fun _ _ q => q, rp_kD _⟩, fun m' h' H' s S => ⟨keep m' h' H' s, by rw [len_of en]; unfold keysD; rw [List.length_map]; exact Nat.le_refl _⟩⟩
theorem dit_vals : DIt K CA Itd valsD := fun m h H a od hk kvs keep en r =>
  ⟨fun i m' h' H' d s S hd => by
    unfold valsD at hd
    rw [List.getElem?_map] at hd
    cases q : kvs[i]? with
    | none => rw [q] at hd; cases hd
    | some p =>
      rw [q] at hd
      cases hd
      obtain ⟨v, e, rv⟩ := kv_at en r q
      have hi := (List.getElem?_eq_some_iff.mp e).1
      refine ⟨⟨keep m' h' H' s, hi⟩, fun x H2 y => ?_⟩
      obtain ⟨rfl, k, e'⟩ := y
      rw [e] at e'; cases e'
      exact ⟨fun _ _ q => q, rv.mv s.toMv⟩, fun m' h' H' s S => ⟨keep m' h' H' s, by rw [len_of en]; unfold valsD; rw [List.length_map]; exact Nat.le_refl _⟩⟩
theorem dit_pairs : DIt K CA Iti pairsD := fun m h H a od hk kvs keep en r =>
  ⟨fun i m' h' H' d s S hd => by
    unfold pairsD at hd
    rw [List.getElem?_map] at hd
    cases q : kvs[i]? with
    | none => rw [q] at hd; cases hd
    | some p =>
      rw [q] at hd
      cases hd
      obtain ⟨v, e, rv⟩ := kv_at en r q
      have hi := (List.getElem?_eq_some_iff.mp e).1
      refine ⟨⟨keep m' h' H' s, hi⟩, fun x H2 y => ?_⟩
      obtain ⟨T, k, v', e', rfl, nT, rfl⟩ := y
      rw [e] at e'; cases e'
      exact ⟨upd_new nT, .tup (S.fresh nT) upd_same (.cons (rp_kD _) (.cons ((rv.mv s.toMv).move (stp_laid S nT)) .nil))⟩, fun m' h' H' s S => ⟨keep m' h' H' s, by rw [len_of en]; unfold pairsD; rw [List.length_map]; exact Nat.le_refl _⟩⟩
theorem frozen_lock {a : Addr} {hk : List (Key × V)} (S : HR K CA m h H) (nl : ¬ Live m h a) (e : H a = some (.dK hk)) (od : Obj) : Stp m h H m h (upd H a (.frz od (.dK hk))) ∧ HR K CA m h (upd H a (.frz od (.dK hk))) := by
  have s2 : Stp m h H m h (upd H a (.frz od (.dK hk))) := by
    refine .mk' ⟨Nat.le_refl _, fun _ _ => rfl, fun b w l q _ => ⟨l, ?_⟩⟩ (fun k kv _ q _ => ⟨q, upd_ne fun z => nl (.inl ⟨k, _, q, z⟩)⟩) rfl fun b l => upd_ne fun z => nl (.inr (by rw [← z]; exact l))
    by_cases hb : b = a
    · subst hb; rw [e] at q; cases q; exact ⟨_, upd_same, .inr (.inl ⟨od, hk, rfl, rfl⟩)⟩
    · exact ⟨w, by rw [upd_ne hb]; exact q, .inl rfl⟩
  refine ⟨s2, fun k w q => ⟨(S.ob k w q).1, (S.ob k w q).2.move s2 (upd_ne fun z => nl (.inl ⟨k, _, q, z⟩))⟩, S.inj, S.zn, fun b l => ?_, tabs_upd S.tb e trivial⟩
  obtain ⟨w, q, nt⟩ := S.zh b l
  exact ⟨w, by rw [upd_ne (fun z => nl (.inr (by rw [← z]; exact l)))]; exact q, nt⟩
/-- the dict of the walk: locked, or it was -/
theorem wi_dict {mk : Addr → Obj → List (Key × V) → It} {its : List (Key × D) → List D} {G : V → Hp → (It → Hp → Prop) → Prop} (hd : DIt K CA mk its) (x : WE X K CA W e ha ta) (pi : PE X e (tLk X ha) → PI X tge iter (fun σ H R => tLk X ha σ H fun x H1 => G x H1 R))
    (hw : ∀ x H1 R', (∃ d o kvs, x = .ref d ∧ H1 d = some (.frz o (.dK kvs)) ∧ R' (mk d o kvs) H1) → G x H1 R') : WI X K CA W tge iter (fun σ H R => tLk X ha σ H fun x H1 => G x H1 R) (dDictI its ta) := by
  refine ⟨pi (pe_lockA x.pe), fun m hh H σ ρ R' S t => x.sim m hh H σ ρ _ S (PostI.bind t fun d h1 m1 v H1 s1 S1 r1 t1 => ?_)⟩
  cases r1 with
  | @dct a o hk kvs nl e c en r =>
    rcases core_dK c with rfl | ⟨ob, rfl⟩
    · refine ⟨a, rfl, .inl ⟨_, e, trivial, fun od nf => hw _ _ _ ⟨a, od, hk, rfl, upd_same, ?_⟩⟩⟩
      obtain ⟨s2, S2⟩ := frozen_lock S1 nl e od
      refine t1.walk (s1.trans s2) S2 (hd m1 h1 _ a od hk kvs (fun m' h' H' s => ?_) en (r.move s2))
      obtain ⟨_, o', e', l⟩ := s.kp a _ nl upd_same trivial
      rw [e', l.frz]
    · refine ⟨a, rfl, .inr (hw _ _ _ ⟨a, ob, hk, rfl, e, t1.walk s1 S1 (hd m1 h1 _ a ob hk kvs (fun m' h' H' s => ?_) en r)⟩)⟩
      obtain ⟨_, o', e', l⟩ := s.kp a _ nl e trivial
      rw [e', l.frz]
  | @ref k lt =>
    simp only at t1
    split at t1
    · rename_i kvs eo
      obtain ⟨hk, eH, lk⟩ := lock_ok S1 eo
      refine ⟨m1 k, rfl, .inl ⟨_, eH, trivial, fun od nf => hw _ _ _ ⟨m1 k, od, hk, rfl, upd_same, ?_⟩⟩⟩
      obtain ⟨s2, S2⟩ := lk od
      refine t1 m1 _ _ (s1.trans s2) S2 (hd m1 _ _ (m1 k) od hk kvs (fun m' h' H' s => ?_) ?_ ?_) ?_
      · obtain ⟨_, q⟩ := s.lk k _ lt put_same id
        rw [q, upd_same]
      · have x := (S1.ob k _ eo).2
        cases x with
        | dct q en r => rw [eH] at q; cases q; exact en
      · have x := (S1.ob k _ eo).2
        cases x with
        | dct q en r => rw [eH] at q; cases q; exact r.move s2
      · intro m2 h2 H2 s3 S3
        obtain ⟨q1, q2, q3⟩ := unlock_ok S1 eo s3 S3
        have mk : m2 k = m1 k := s3.mp k lt
        exact ⟨_, _, (s3.lk k _ lt put_same id).1, .inr ⟨od, hk, q1, by rw [mk]; exact nf, rfl⟩, s1.trans q2, q3⟩
    · rename_i kvs eo
      have x := (S1.ob k _ eo).2
      cases x with
      | @lck ob hk _ q en r =>
        refine ⟨m1 k, rfl, .inr (hw _ _ _ ⟨m1 k, ob, hk, rfl, q, t1.walk s1 S1 (hd m1 h1 _ (m1 k) ob hk kvs (fun m' h' H' s => ?_) en r)⟩)⟩
        obtain ⟨_, q2⟩ := s.lk k _ lt eo id
        rw [q2, q]
    · exact t1.elim
  | _ => exact t1.elim
theorem wi_vals (x : WE X K CA W e ha ta) (pi : PE X e (tLk X ha) → PI X tge iter (iVals (tLk X ha))) : WI X K CA W tge iter (iVals (tLk X ha)) (dDictI valsD ta) := wi_dict (G := fun x H1 R => ∃ d o kvs, x = .ref d ∧ H1 d = some (.frz o (.dK kvs)) ∧ R (Itd d o kvs) H1) dit_vals x pi fun _ _ _ q => q
theorem wi_items (x : WE X K CA W e ha ta) (pi : PE X e (tLk X ha) → PI X tge iter (iItems (tLk X ha))) : WI X K CA W tge iter (iItems (tLk X ha)) (dDictI pairsD ta) := wi_dict (G := fun x H1 R => ∃ d o kvs, x = .ref d ∧ H1 d = some (.frz o (.dK kvs)) ∧ R (Iti d o kvs) H1) dit_pairs x pi fun _ _ _ q => q
theorem wi_keys (x : WE X K CA W e ha ta) : WI X K CA W tge e (iKeys (tLk X ha)) (dDictI keysD ta) := wi_dict (G := fun x H1 R => ∃ d o, x = .ref d ∧ ((∃ kvs, H1 d = some (.frz o (.dK kvs)) ∧ R (Itk d o kvs) H1) ∨ ∃ kvs, H1 d = some (.frz o (.dT kvs)) ∧ R (Itkt d o kvs) H1)) dit_keys x pi_keys fun _ _ _ ⟨d, o, kvs, e, e1, q⟩ => ⟨d, o, e, .inl ⟨kvs, e1, q⟩⟩
/-! ### comprehensions -/
/-- the comprehension's own names are not there yet -/
def wipeD (ρ : DE) : List Nat → DE
  | [] => ρ
  | v :: vs => (wipeD ρ vs).set v none
def dYes : TB := fun _ h => .ok true h
def dLcL (tg : TGD) (tt : TB) (te : TD) (ρ0 : DE) : List D → CH → R (List D)
  | [], h => .ok [] h
  | d :: r, h => (tg d ρ0 h).calm fun ρ2 h => (tt ρ2 h).calm fun b h => if b = true then (te ρ2 h).calm fun y h => (dLcL tg tt te ρ0 r h).bind fun ys h => .ok (y :: ys) h
    else dLcL tg tt te ρ0 r h
def dLc (nm : Bool) (ti : TDw) (tg : TGD) (tt : TB) (te : TD) (vs : List Nat) : TD := fun ρ h => (ti ρ h).bind fun w h => if w.1.length ≤ sizeLine then ((dLcL tg tt te (wipeD ρ vs) w.1 h).bind fun ys h => mkL nm ys h).unl w.2 else .no
section
variable {m m1 m2 : Mp} {h1 h2 : CH} {H1 H2 : Hp} {σ : L2.St} {ρ : DE} {p : Addr} {Q' : VK}
theorem wipe_at {σ : L2.St} {vs : List Nat} {j : Nat} (h : j ∉ vs) : (wipe σ vs)[j]? = σ[j]? := by
  induction vs with
  | nil => rfl
  | cons v vs ih =>
    simp only [List.mem_cons, not_or] at h
    unfold wipe
    rw [List.getElem?_set_ne (Ne.symm h.1)]
    exact ih h.2
theorem wipeD_len (ρ : DE) (vs : List Nat) : (wipeD ρ vs).length = ρ.length := by
  induction vs with
  | nil => rfl
  | cons v vs ih => unfold wipeD; rw [List.length_set, ih]
theorem wipeD_some {ρ : DE} {vs : List Nat} {j : Nat} {s : D} (h : (wipeD ρ vs)[j]? = some (some s)) : j ∉ vs ∧ ρ[j]? = some (some s) := by
  induction vs with
  | nil => exact ⟨by simp, h⟩
  | cons v vs ih =>
    unfold wipeD at h
    rcases set_some h with ⟨_, q⟩ | ⟨n, q⟩
    · cases q
    · obtain ⟨h1, h2⟩ := ih q
      exact ⟨by simp [n, h1], h2⟩
theorem SO.wiped (S : SO K CA m h H σ ρ) (vs : List Nat) : SO K CA m h H (wipe σ vs) (wipeD ρ vs) :=
  ⟨S.hr, by rw [wipe_length, wipeD_len]; exact S.len, fun j s e => by
    obtain ⟨h1, h2⟩ := wipeD_some e
    obtain ⟨v, e1, r⟩ := S.sl j s h2
    exact ⟨v, by rw [wipe_at h1]; exact e1, r⟩⟩
abbrev W0 : WX := fun _ _ _ _ => False
theorem wipe_none {σ : L2.St} {vs : List Nat} {j : Nat} (h : j ∈ vs) : (wipe σ vs)[j]? = none ∨ (wipe σ vs)[j]? = some none := by
  induction vs with
  | nil => cases h
  | cons w ws ih =>
    unfold wipe
    by_cases q : w = j
    · subst q
      by_cases l : w < (wipe σ ws).length
      · exact .inr (List.getElem?_set_self l)
      · exact .inl (by rw [List.getElem?_eq_none_iff, List.length_set]; omega)
    · rw [List.getElem?_set_ne q]
      rcases List.mem_cons.mp h with z | z
      · exact absurd z.symm q
      · exact ih z
theorem wipe_eq {σ σ' : L2.St} {vs : List Nat} (hl : σ'.length = σ.length) (h : ∀ j, j ∉ vs → σ'[j]? = σ[j]?) : wipe σ' vs = wipe σ vs := by
  apply List.ext_getElem?
  intro j
  by_cases hj : j ∈ vs
  · have l1 := wipe_length σ' vs
    have l2 := wipe_length σ vs
    by_cases lt : j < σ.length
    · have k1 := wipe_none (σ := σ') hj
      have k2 := wipe_none (σ := σ) hj
      have n1 : (wipe σ' vs)[j]? ≠ none := fun z => by have := List.getElem?_eq_none_iff.mp z; omega
      have n2 : (wipe σ vs)[j]? ≠ none := fun z => by have := List.getElem?_eq_none_iff.mp z; omega
      rw [k1.resolve_left n1, k2.resolve_left n2]
    · rw [List.getElem?_eq_none_iff.mpr (by omega), List.getElem?_eq_none_iff.mpr (by omega)]
  · rw [wipe_at hj, wipe_at hj]
    exact h j hj
/-- what was made at p gets a name -/
theorem named_kp {zs : List Addr} (S2 : HR K CA m2 h2 H2) (z2 : m2.z = p :: zs) {o : MO} : ∀ a w, ¬ Live m2 h2 a → H2 a = some w → NoTb w → ¬ Live (mpNew ⟨m2.f, zs⟩ h2 p) (h2.new o) a ∧ ∃ o', H2 a = some o' ∧ Lk w o' := fun a w l e _ => ⟨fun z => l (by
    rcases z with ⟨k, u, q, rfl⟩ | z
    · unfold CH.new at q
      by_cases c : k = h2.nx
      · subst c
        have e2 : (mpNew ⟨m2.f, zs⟩ h2 p) h2.nx = p := mpNew_nx
        exact .inr (by rw [z2, e2]; exact List.mem_cons_self ..)
      · simp only [if_neg c] at q
        have e2 : (mpNew ⟨m2.f, zs⟩ h2 p) k = m2 k := mpNew_lt (m := ⟨m2.f, zs⟩) (S2.ob k u q).1
        exact .inl ⟨k, u, q, e2.symm⟩
    · exact .inr (by rw [z2]; exact List.mem_cons_of_mem _ z)), w, e, .inl rfl⟩
theorem RpAll.named {zs : List Addr} (S2 : HR K CA m2 h2 H2) (z2 : m2.z = p :: zs) {o : MO} {vs : List V} {ds : List D} (r : RpAll K CA m2 h2 H2 vs ds) : RpAll K CA (mpNew ⟨m2.f, zs⟩ h2 p) (h2.new o) H2 vs ds :=
  RpAll.mv0 (m := m2) (h := h2) (H := H2) (m' := mpNew ⟨m2.f, zs⟩ h2 p) (h' := h2.new o) (H' := H2) (Nat.le_succ _) (fun k l => mpNew_lt (m := ⟨m2.f, zs⟩) l) (named_kp S2 z2) r
theorem done_named (S : HR K CA m1 h1 H1) (n : H1 p = none) {u : HO} (s : Sc p (m1.add p) h1 (upd H1 p u) m2 h2 H2) (S2 : HR K CA m2 h2 H2) {o : MO} (x : MOk K CA (mpNew ⟨m2.f, m1.z⟩ h2 p) (h2.new o) H2 p o) :
    Stp m1 h1 H1 (mpNew ⟨m2.f, m1.z⟩ h2 p) (h2.new o) H2 ∧ HR K CA (mpNew ⟨m2.f, m1.z⟩ h2 p) (h2.new o) H2 := by
  have z2 : m2.z = p :: m1.z := s.z
  have sd := stp_done S n s
  have key : ∀ j u, (h2.new o).ob j = some u → (j = h2.nx ∧ u = o) ∨ (j < h2.nx ∧ h2.ob j = some u) := fun j u e => by
    unfold CH.new at e
    by_cases q : j = h2.nx
    · simp only [if_pos q] at e; cases e; exact .inl ⟨q, rfl⟩
    · simp only [if_neg q] at e
      exact .inr ⟨(S2.ob j u e).1, e⟩
  have pz : p ∈ m2.z := by rw [z2]; exact List.mem_cons_self ..
  have off : ∀ j u, h2.ob j = some u → m2 j ≠ p := fun j u e z => S2.zn j u e (by rw [z]; exact pz)
  have at0 : (mpNew ⟨m2.f, m1.z⟩ h2 p) h2.nx = p := mpNew_nx
  have at1 : ∀ k, k < h2.nx → (mpNew ⟨m2.f, m1.z⟩ h2 p) k = m2 k := fun k l => mpNew_lt (m := ⟨m2.f, m1.z⟩) l
  refine ⟨.mk' ⟨Nat.le_trans sd.nx (Nat.le_succ _), fun k l => (at1 k (Nat.lt_of_lt_of_le l sd.nx)).trans (sd.mp k l), fun a w l e nt => ?_⟩ (fun k kvs l e ld => ?_) rfl (fun a l => sd.zk a l), ⟨fun j w e => ?_, fun i j u w e1 e2 e3 => ?_, fun j w e => ?_, fun a l => ?_, S2.tb⟩⟩
  · have ne : a ≠ p := ne_of_none e n
    obtain ⟨l2, o', e', lk⟩ := s.kp a w (fun z => by
      rcases z with ⟨k, u, q, rfl⟩ | z
      · exact l (.inl ⟨k, u, q, rfl⟩)
      · rcases List.mem_cons.mp z with z | z
        · exact ne z
        · exact l (.inr z)) (by rw [upd_ne ne]; exact e) nt
    exact ⟨(named_kp S2 z2 a o' l2 e' (lk_nt lk nt)).1, o', e', lk⟩
  · obtain ⟨a1, a2⟩ := sd.lk k kvs l e ld
    refine ⟨?_, a2⟩
    unfold CH.new
    simp only [if_neg (Nat.ne_of_lt (Nat.lt_of_lt_of_le l sd.nx))]
    exact a1
  · rcases key j w e with ⟨rfl, rfl⟩ | ⟨l, q⟩
    · exact ⟨Nat.lt_succ_self _, by rw [at0]; exact x⟩
    · refine ⟨Nat.lt_succ_of_lt l, ?_⟩
      rw [at1 j l]
      exact (S2.ob j w q).2.mv ⟨Nat.le_succ _, at1, named_kp S2 z2⟩ rfl
  · rcases key i u e1 with ⟨rfl, rfl⟩ | ⟨l1, q1⟩
    · rcases key j w e2 with ⟨rfl, rfl⟩ | ⟨l2, q2⟩
      · rfl
      · rw [at0, at1 j l2] at e3
        exact absurd e3.symm (off j w q2)
    · rcases key j w e2 with ⟨rfl, rfl⟩ | ⟨l2, q2⟩
      · rw [at0, at1 i l1] at e3
        exact absurd e3 (off i u q1)
      · rw [at1 i l1, at1 j l2] at e3
        exact S2.inj i j u w q1 q2 e3
  · rcases key j w e with ⟨rfl, rfl⟩ | ⟨l, q⟩
    · rw [at0]; exact fun z => S.fresh n (.inr z)
    · rw [at1 j l]; exact fun z => S2.zn j w q (by rw [z2]; exact List.mem_cons_of_mem _ z)
  · exact S2.zh a (by rw [z2]; exact List.mem_cons_of_mem _ l)
/-- what was made at p is data -/
theorem done_data (S : HR K CA m1 h1 H1) (n : H1 p = none) {u : HO} (s : Sc p (m1.add p) h1 (upd H1 p u) m2 h2 H2) (S2 : HR K CA m2 h2 H2) : ¬ Live ⟨m2.f, m1.z⟩ h2 p := fun z => by
  have z2 : m2.z = p :: m1.z := s.z
  rcases z with ⟨k, o, e, q⟩ | z
  · exact S2.zn k o e (by rw [z2]; have q' : m2 k = p := q; rw [q']; exact List.mem_cons_self ..)
  · exact S.fresh n (.inr z)
theorem doneL {nm : Bool} {acc : List V} {ds : List D} {Q1 : VK} {mb : Mp} {hb : CH} {Hb : Hp} (sb : Stp mb hb Hb m1 h1 H1) (S : HR K CA m1 h1 H1) (n : H1 p = none) {u : HO} (s : Sc p (m1.add p) h1 (upd H1 p u) m2 h2 H2) (S2 : HR K CA m2 h2 H2) (e : H2 p = some (.lst acc)) (r : RpAll K CA m2 h2 H2 acc ds) {un : Unl}
    (uo : UnlOk K CA X.H_0 mb hb Hb m1 h1 H1 un) (t : PostE K CA W mb hb Hb σ Q1 ((mkL nm ds h2).unl un)) : UnlP X (Q1 (.ref p)) H2 := by
  have z2 : m2.z = p :: m1.z := s.z
  cases nm with
  | true =>
    obtain ⟨s3, S3⟩ := done_named (o := .lst ds) S n s S2 (.lst e (r.named S2 z2))
    refine unl_at sb uo s3 S3 fun H3 s4 S4 k => t _ _ H3 s4 S4 (k _ _ ?_)
    have := Rp.ref (K := K) (CA := CA) (m := mpNew ⟨m2.f, m1.z⟩ h2 p) (h := h2.new (.lst ds)) (H := H2) (k := h2.nx) (Nat.lt_succ_self _)
    rw [show (mpNew ⟨m2.f, m1.z⟩ h2 p) h2.nx = p from mpNew_nx] at this
    exact this
  | false => exact unl_at sb uo (stp_done S n s) (S2.done z2) fun H3 s4 S4 k => t _ _ H3 s4 S4 (k _ _ (.lst (done_data S n s S2) e (r.done z2)))
theorem doneD {nm : Bool} {acc : List (Key × V)} {ds : List (Key × D)} {Q1 : VK} {mb : Mp} {hb : CH} {Hb : Hp} (sb : Stp mb hb Hb m1 h1 H1) (S : HR K CA m1 h1 H1) (n : H1 p = none) {u : HO} (s : Sc p (m1.add p) h1 (upd H1 p u) m2 h2 H2) (S2 : HR K CA m2 h2 H2) (e : H2 p = some (.dK acc)) (en : acc.map (·.1) = ds.map (·.1)) (r : RpAll K CA m2 h2 H2 (acc.map (·.2)) (ds.map (·.2))) {un : Unl}
    (uo : UnlOk K CA X.H_0 mb hb Hb m1 h1 H1 un) (t : PostE K CA W mb hb Hb σ Q1 ((mkD nm ds h2).unl un)) : UnlP X (Q1 (.ref p)) H2 := by
  have z2 : m2.z = p :: m1.z := s.z
  cases nm with
  | true =>
    obtain ⟨s3, S3⟩ := done_named (o := .dct ds) S n s S2 (.dct e en (r.named S2 z2))
    refine unl_at sb uo s3 S3 fun H3 s4 S4 k => t _ _ H3 s4 S4 (k _ _ ?_)
    have := Rp.ref (K := K) (CA := CA) (m := mpNew ⟨m2.f, m1.z⟩ h2 p) (h := h2.new (.dct ds)) (H := H2) (k := h2.nx) (Nat.lt_succ_self _)
    rw [show (mpNew ⟨m2.f, m1.z⟩ h2 p) h2.nx = p from mpNew_nx] at this
    exact this
  | false => exact unl_at sb uo (stp_done S n s) (S2.done z2) fun H3 s4 S4 k => t _ _ H3 s4 S4 (k _ _ (.dct (done_data S n s S2) e rfl en (r.done z2)))
end
/-- a comprehension's walk: PostI from an expression's wish -/
theorem PostI.bindE {α β : Type} {RR : Mp → CH → Hp → β → α → Prop} {m : Mp} {h : CH} {H : Hp} {σ : L2.St} {H0 : Hp} {r : R (List D × Unl)} {k : List D × Unl → CH → R α} {Q2 : β → Hp → Prop} {R' : It → Hp → Prop} (q : PostG K CA W RR m h H σ Q2 (r.bind k))
    (f : ∀ w h1 m1 J H1, Stp m h H m1 h1 H1 → HR K CA m1 h1 H1 → Wk K CA m1 h1 H1 J w.1 → UnlOk K CA H0 m h H m1 h1 H1 w.2 → PostG K CA W RR m h H σ Q2 (k w h1) → R' J H1) : PostI K CA W H0 m h H σ R' r := by
  cases r with
  | ok w h1 => exact fun m1 J H1 s S1 wk uo => f w h1 m1 J H1 s S1 wk uo q
  | ex c fs h1 => exact q
  | no => exact q
abbrev tLcU (X : Cx) (wH : TI) (gH : TG) (hT : TT) (he : TE) (vs : List Nat) : TE := fun σ H Q => tLc wH gH hT he vs σ H fun v => UnlP X (Q v)
theorem sim_lc {nm : Bool} {gH : TG} {tg : TGD} {hT : TT} {tt : TB} {te : TD} {he : TE} {wH : TI} {ti : TDw} {vs sl : List Nat} (hi : SimI K CA W X.H_0 wH ti) (hg : SimG K CA sl gH tg) (ht : SimT K CA W0 hT tt) (hel : SimE K CA W0 he te) (ho : ∀ j, j ∈ sl → j ∈ vs) : SimE K CA W (tLcU X wH gH hT he vs) (dLc nm ti tg tt te vs) := by
  intro m h H σ ρ Q' S t
  refine hi m h H σ ρ _ S (PostI.bindE t fun w h1 m1 J H1 s1 S1 wk uo t1 => ?_)
  obtain ⟨hsz, t1⟩ := post_ite t1
  intro D0 n
  have S2 := S1.add (u := .lst []) n
  have SO2 : SO K CA (m1.add D0) h1 (upd H1 D0 (.lst [])) σ ρ := ⟨S2, S.len, fun i d e => let ⟨v, e1, q⟩ := (S.move s1 S1).sl i d e; ⟨v, e1, q.add n⟩⟩
  refine ⟨fun i k H' => k + i = w.1.length ∧ ∃ acc dacc m' h', Sc D0 (m1.add D0) h1 (upd H1 D0 (.lst [])) m' h' H' ∧ SO K CA m' h' H' σ ρ ∧ H' D0 = some (.lst acc) ∧ dacc.length ≤ i ∧ RpAll K CA m' h' H' acc dacc ∧ PostE K CA W m h H σ Q' (((dLcL tg tt te (wipeD ρ vs) (w.1.drop i) h').bind fun ys h => mkL nm (dacc ++ ys) h).unl w.2),
    ⟨w.1.length, rfl, [], [], m1.add D0, h1, Stp.sc .refl, SO2, upd_same, Nat.le_refl _, .nil, t1⟩, ?_⟩
  rintro i k H' ⟨hk, acc, dacc, m', h', st', S', eD, hl, ra, q'⟩
  have sz0 := sz_add (u := .lst []) S1 n
  cases hd : w.1[i]? with
  | none =>
    have hlen : w.1.length ≤ i := List.getElem?_eq_none_iff.mp hd
    obtain rfl : i = w.1.length := by omega
    rw [List.drop_length] at q'
    refine .inl ⟨wk.stop m' h' H' (sz0.trans st'.toSz) S'.hr, doneL (W := W) (σ := σ) (nm := nm) s1 S1 n st' S'.hr eD ra uo ?_⟩
    have q2 : PostE K CA W m h H σ Q' ((mkL nm (dacc ++ []) h').unl w.2) := q'
    rw [List.append_nil] at q2
    exact q2
  | some d =>
    obtain ⟨hlt, ed⟩ := List.getElem?_eq_some_iff.mp hd
    rw [List.drop_eq_getElem_cons hlt, ed] at q'
    obtain ⟨go, yl⟩ := wk.go i m' h' H' d (sz0.trans st'.toSz) S'.hr hd
    refine .inr ⟨go, fun H3 => ∃ acc dacc m' h', Sc D0 (m1.add D0) h1 (upd H1 D0 (.lst [])) m' h' H3 ∧ SO K CA m' h' H3 σ ρ ∧ H3 D0 = some (.lst acc) ∧ dacc.length ≤ i + 1 ∧ RpAll K CA m' h' H3 acc dacc ∧ PostE K CA W m h H σ Q' (((dLcL tg tt te (wipeD ρ vs) (w.1.drop (i + 1)) h').bind fun ys h => mkL nm (dacc ++ ys) h).unl w.2),
      fun H3 n3 => ⟨k - 1, by omega, by omega, n3⟩, fun x H2 y2 => ?_⟩
    obtain ⟨gr, r2⟩ := yl x H2 y2
    have a2 := stp_grow S'.hr gr
    have S3 := S'.move a2 (S'.hr.grow gr)
    have st3 := st'.trans (a2.sc (p := D0))
    have eD3 := gr _ _ eD
    have ra3 := ra.move a2
    have pz : D0 ∈ m'.z := by rw [st'.z]; exact List.mem_cons_self ..
    have wip : wipe (wipe σ vs) vs = wipe σ vs := wipe_eq (wipe_length _ _) fun j hj => wipe_at hj
    refine hg m' h' H2 (wipe σ vs) (wipeD ρ vs) x d _ (S3.wiped vs) r2 ?_
    unfold dLcL at q'
    cases eg : tg d (wipeD ρ vs) h' with
    | ex c fs h4 => rw [eg] at q'; exact q'.elim
    | no => rw [eg] at q'; exact q'.elim
    | ok ρ2 h4 =>
      rw [eg] at q'
      intro m4 σ4 H4 s4 S4 hl4 hn4
      refine ⟨(wipe_eq hl4 fun j hj => hn4 j fun z => hj (ho j z)).trans wip, ht m4 h4 H4 σ4 ρ2 _ S4 ?_⟩
      have eD4 := (s4.zk D0 pz).trans eD3
      have ra4 := ra3.move s4
      have S4' := S3.move s4 S4.hr
      have pz4 : D0 ∈ m4.z := by rw [s4.z]; exact pz
      replace q' : PostE K CA W m h H σ Q' ((((tt ρ2 h4).calm fun b h => if b = true then (te ρ2 h).calm fun y h => (dLcL tg tt te (wipeD ρ vs) (w.1.drop (i + 1)) h).bind fun ys h => .ok (y :: ys) h else dLcL tg tt te (wipeD ρ vs) (w.1.drop (i + 1)) h).bind fun ys h => mkL nm (dacc ++ ys) h).unl w.2) := q'
      cases et : tt ρ2 h4 with
      | ex c fs h5 => rw [et] at q'; exact q'.elim
      | no => rw [et] at q'; exact q'.elim
      | ok b h5 =>
        rw [et] at q'
        intro m5 b' H5 s5 S5 eb
        cases (show b' = b from eb)
        have eD5 := (s5.zk D0 pz4).trans eD4
        have ra5 := ra4.move s5
        have S5' := S4'.move s5 S5
        have pz5 : D0 ∈ m5.z := by rw [s5.z]; exact pz4
        have st5 := (st3.trans (s4.sc (p := D0))).trans (s5.sc (p := D0))
        cases b with
        | false => exact ⟨acc, dacc, m5, h5, st5, S5', eD5, Nat.le_succ_of_le hl, ra5, q'⟩
        | true =>
          refine hel m5 h5 H5 σ4 ρ2 _ (S4.move s5 S5) ?_
          replace q' : PostE K CA W m h H σ Q' ((((te ρ2 h5).calm fun y h => (dLcL tg tt te (wipeD ρ vs) (w.1.drop (i + 1)) h).bind fun ys h => .ok (y :: ys) h).bind fun ys h => mkL nm (dacc ++ ys) h).unl w.2) := q'
          cases ee : te ρ2 h5 with
          | ex c fs h6 => rw [ee] at q'; exact q'.elim
          | no => rw [ee] at q'; exact q'.elim
          | ok y h6 =>
            rw [ee] at q'
            intro m6 v6 H6 s6 S6 r6
            have eD6 := (s6.zk D0 pz5).trans eD5
            have pz6 : D0 ∈ m6.z := by rw [s6.z]; exact pz5
            have ra6 := (ra5.move s6).append (.cons r6 .nil)
            have S6' := S5'.move s6 S6
            have sm := sc_made (u := .lst (acc ++ [v6])) S6 pz6
            refine ⟨acc, eD6, by rw [ra.length]; omega, acc ++ [v6], dacc ++ [y], m6, h6, (st5.trans (s6.sc (p := D0))).trans sm, ⟨S6.made pz6, S6'.len, fun j dj ej => ?_⟩, upd_same, by simp; exact hl, ra6.mv sm.toMv, ?_⟩
            · obtain ⟨vj, e1, q⟩ := S6'.sl j dj ej
              exact ⟨vj, e1, q.mv sm.toMv⟩
            · have e3 : ∀ r : R (List D), (r.bind fun ys h => R.ok (y :: ys) h).bind (fun ys h => mkL nm (dacc ++ ys) h) = r.bind fun ys h => mkL nm ((dacc ++ [y]) ++ ys) h := fun r => by
                cases r with
                | ok ys h7 => show mkL nm (dacc ++ (y :: ys)) h7 = mkL nm ((dacc ++ [y]) ++ ys) h7; rw [List.append_assoc]; rfl
                | ex c fs h7 => rfl
                | no => rfl
              rw [← e3]
              exact q'
/-! ### dict comprehensions -/
def dDcL (tg : TGD) (tt : TB) (tk tv : TD) (ρ0 : DE) : List (Key × D) → List D → CH → R (List (Key × D))
  | acc, [], h => .ok acc h
  | acc, d :: r, h => (tg d ρ0 h).calm fun ρ2 h => (tt ρ2 h).calm fun b h => if b = true then (tk ρ2 h).calm fun y h => (tv ρ2 h).calm fun z h => match keyD y with
      | some k => if acc.length < sizeLine then dDcL tg tt tk tv ρ0 (dPut acc k z) r h else .no
      | none => .no
    else dDcL tg tt tk tv ρ0 acc r h
def dDc (nm : Bool) (ti : TDw) (tg : TGD) (tt : TB) (tk tv : TD) (vs : List Nat) : TD := fun ρ h => (ti ρ h).bind fun w h => ((dDcL tg tt tk tv (wipeD ρ vs) [] w.1 h).bind fun ys h => mkD nm ys h).unl w.2
abbrev tDcU (X : Cx) (wH : TI) (gH : TG) (hT : TT) (hk hv : TE) (vs : List Nat) : TE := fun σ H Q => tDc wH gH hT hk hv vs σ H fun v => UnlP X (Q v)
theorem sim_dc {nm : Bool} {gH : TG} {tg : TGD} {hT : TT} {tt : TB} {tk tv : TD} {hk hv : TE} {wH : TI} {ti : TDw} {vs sl : List Nat} (hi : SimI K CA W X.H_0 wH ti) (hg : SimG K CA sl gH tg) (ht : SimT K CA W0 hT tt) (hek : SimE K CA W0 hk tk) (hev : SimE K CA W0 hv tv) (ho : ∀ j, j ∈ sl → j ∈ vs) : SimE K CA W (tDcU X wH gH hT hk hv vs) (dDc nm ti tg tt tk tv vs) := by
  intro m h H σ ρ Q' S t
  refine hi m h H σ ρ _ S (PostI.bindE t fun w h1 m1 J H1 s1 S1 wk uo t1 => ?_)
  intro D0 n
  have S2 := S1.add (u := .dK []) n
  have SO2 : SO K CA (m1.add D0) h1 (upd H1 D0 (.dK [])) σ ρ := ⟨S2, S.len, fun i d e => let ⟨v, e1, q⟩ := (S.move s1 S1).sl i d e; ⟨v, e1, q.add n⟩⟩
  refine ⟨fun i k H' => k + i = w.1.length ∧ ∃ acc dacc m' h', Sc D0 (m1.add D0) h1 (upd H1 D0 (.dK [])) m' h' H' ∧ SO K CA m' h' H' σ ρ ∧ H' D0 = some (.dK acc) ∧ acc.map (·.1) = dacc.map (·.1) ∧ RpAll K CA m' h' H' (acc.map (·.2)) (dacc.map (·.2)) ∧ PostE K CA W m h H σ Q' (((dDcL tg tt tk tv (wipeD ρ vs) dacc (w.1.drop i) h').bind fun ys h => mkD nm ys h).unl w.2),
    ⟨w.1.length, rfl, [], [], m1.add D0, h1, Stp.sc .refl, SO2, upd_same, rfl, .nil, t1⟩, ?_⟩
  rintro i k H' ⟨hkl, acc, dacc, m', h', st', S', eD, en, ra, q'⟩
  have sz0 := sz_add (u := .dK []) S1 n
  cases hd : w.1[i]? with
  | none =>
    have hlen : w.1.length ≤ i := List.getElem?_eq_none_iff.mp hd
    obtain rfl : i = w.1.length := by omega
    rw [List.drop_length] at q'
    exact .inl ⟨wk.stop m' h' H' (sz0.trans st'.toSz) S'.hr, doneD (W := W) (σ := σ) (nm := nm) s1 S1 n st' S'.hr eD en ra uo q'⟩
  | some d =>
    obtain ⟨hlt, ed⟩ := List.getElem?_eq_some_iff.mp hd
    rw [List.drop_eq_getElem_cons hlt, ed] at q'
    obtain ⟨go, yl⟩ := wk.go i m' h' H' d (sz0.trans st'.toSz) S'.hr hd
    refine .inr ⟨go, fun H3 => ∃ acc dacc m' h', Sc D0 (m1.add D0) h1 (upd H1 D0 (.dK [])) m' h' H3 ∧ SO K CA m' h' H3 σ ρ ∧ H3 D0 = some (.dK acc) ∧ acc.map (·.1) = dacc.map (·.1) ∧ RpAll K CA m' h' H3 (acc.map (·.2)) (dacc.map (·.2)) ∧ PostE K CA W m h H σ Q' (((dDcL tg tt tk tv (wipeD ρ vs) dacc (w.1.drop (i + 1)) h').bind fun ys h => mkD nm ys h).unl w.2),
      fun H3 n3 => ⟨k - 1, by omega, by omega, n3⟩, fun x H2 y2 => ?_⟩
    obtain ⟨gr, r2⟩ := yl x H2 y2
    have a2 := stp_grow S'.hr gr
    have S3 := S'.move a2 (S'.hr.grow gr)
    have st3 := st'.trans (a2.sc (p := D0))
    have eD3 := gr _ _ eD
    have ra3 := ra.move a2
    have pz : D0 ∈ m'.z := by rw [st'.z]; exact List.mem_cons_self ..
    have wip : wipe (wipe σ vs) vs = wipe σ vs := wipe_eq (wipe_length _ _) fun j hj => wipe_at hj
    refine hg m' h' H2 (wipe σ vs) (wipeD ρ vs) x d _ (S3.wiped vs) r2 ?_
    unfold dDcL at q'
    cases eg : tg d (wipeD ρ vs) h' with
    | ex c fs h4 => rw [eg] at q'; exact q'.elim
    | no => rw [eg] at q'; exact q'.elim
    | ok ρ2 h4 =>
      rw [eg] at q'
      intro m4 σ4 H4 s4 S4 hl4 hn4
      refine ⟨(wipe_eq hl4 fun j hj => hn4 j fun z => hj (ho j z)).trans wip, ht m4 h4 H4 σ4 ρ2 _ S4 ?_⟩
      have eD4 := (s4.zk D0 pz).trans eD3
      have ra4 := ra3.move s4
      have S4' := S3.move s4 S4.hr
      have pz4 : D0 ∈ m4.z := by rw [s4.z]; exact pz
      replace q' : PostE K CA W m h H σ Q' ((((tt ρ2 h4).calm fun b h => if b = true then (tk ρ2 h).calm fun y h => (tv ρ2 h).calm fun z h => match keyD y with
          | some k => if dacc.length < sizeLine then dDcL tg tt tk tv (wipeD ρ vs) (dPut dacc k z) (w.1.drop (i + 1)) h else .no
          | none => .no
        else dDcL tg tt tk tv (wipeD ρ vs) dacc (w.1.drop (i + 1)) h).bind fun ys h => mkD nm ys h).unl w.2) := q'
      cases et : tt ρ2 h4 with
      | ex c fs h5 => rw [et] at q'; exact q'.elim
      | no => rw [et] at q'; exact q'.elim
      | ok b h5 =>
        rw [et] at q'
        intro m5 b' H5 s5 S5 eb
        cases (show b' = b from eb)
        have eD5 := (s5.zk D0 pz4).trans eD4
        have ra5 := ra4.move s5
        have S5' := S4'.move s5 S5
        have pz5 : D0 ∈ m5.z := by rw [s5.z]; exact pz4
        have st5 := (st3.trans (s4.sc (p := D0))).trans (s5.sc (p := D0))
        cases b with
        | false => exact ⟨acc, dacc, m5, h5, st5, S5', eD5, en, ra5, q'⟩
        | true =>
          refine hek m5 h5 H5 σ4 ρ2 _ (S4.move s5 S5) ?_
          replace q' : PostE K CA W m h H σ Q' ((((tk ρ2 h5).calm fun y h => (tv ρ2 h).calm fun z h => match keyD y with
              | some k => if dacc.length < sizeLine then dDcL tg tt tk tv (wipeD ρ vs) (dPut dacc k z) (w.1.drop (i + 1)) h else .no
              | none => .no).bind fun ys h => mkD nm ys h).unl w.2) := q'
          cases ee : tk ρ2 h5 with
          | ex c fs h6 => rw [ee] at q'; exact q'.elim
          | no => rw [ee] at q'; exact q'.elim
          | ok y h6 =>
            rw [ee] at q'
            intro m6 v6 H6 s6 S6 r6
            refine hev m6 h6 H6 σ4 ρ2 _ ((S4.move s5 S5).move s6 S6) ?_
            replace q' : PostE K CA W m h H σ Q' ((((tv ρ2 h6).calm fun z h => match keyD y with
                | some k => if dacc.length < sizeLine then dDcL tg tt tk tv (wipeD ρ vs) (dPut dacc k z) (w.1.drop (i + 1)) h else .no
                | none => .no).bind fun ys h => mkD nm ys h).unl w.2) := q'
            cases ef : tv ρ2 h6 with
            | ex c fs h7 => rw [ef] at q'; exact q'.elim
            | no => rw [ef] at q'; exact q'.elim
            | ok z h7 =>
              rw [ef] at q'
              replace q' : PostE K CA W m h H σ Q' (((match keyD y with
                | some k => if dacc.length < sizeLine then dDcL tg tt tk tv (wipeD ρ vs) (dPut dacc k z) (w.1.drop (i + 1)) h7 else .no
                | none => .no).bind fun ys h => mkD nm ys h).unl w.2) := q'
              intro m7 v7 H7 s7 S7 r7
              cases ek : keyD y with
              | none => rw [ek] at q'; exact q'.elim
              | some k =>
                rw [ek] at q'
                by_cases hz : dacc.length < sizeLine
                · replace q' : PostE K CA W m h H σ Q' (((if dacc.length < sizeLine then dDcL tg tt tk tv (wipeD ρ vs) (dPut dacc k z) (w.1.drop (i + 1)) h7 else .no).bind fun ys h => mkD nm ys h).unl w.2) := q'
                  rw [if_pos hz] at q'
                  have eD7 := (s7.zk D0 (by rw [s6.z]; exact pz5)).trans ((s6.zk D0 pz5).trans eD5)
                  have pz7 : D0 ∈ m7.z := by rw [s7.z, s6.z]; exact pz5
                  have ey := rp_key r6 ek
                  obtain ⟨en', rr⟩ := rp_dput (k := k) en ((ra5.move s6).move s7) r7
                  have S7' := (S5'.move s6 S6).move s7 S7
                  have sm := sc_made (u := .dK (putK acc k v7)) S7 pz7
                  refine ⟨acc, k, ey, eD7, by rw [len_of en]; exact hz, putK acc k v7, dPut dacc k z, m7, h7, (st5.trans ((s6.trans s7).sc (p := D0))).trans sm, ⟨S7.made pz7, S7'.len, fun j dj ej => ?_⟩, upd_same, en', rr.mv sm.toMv, q'⟩
                  obtain ⟨vj, e1, q⟩ := S7'.sl j dj ej
                  exact ⟨vj, e1, q.mv sm.toMv⟩
                · replace q' : PostE K CA W m h H σ Q' (((if dacc.length < sizeLine then dDcL tg tt tk tv (wipeD ρ vs) (dPut dacc k z) (w.1.drop (i + 1)) h7 else .no).bind fun ys h => mkD nm ys h).unl w.2) := q'
                  rw [if_neg hz] at q'
                  exact q'.elim
/-! ### comprehensions as expressions -/
structure WTs (X : Cx) (K : PySem.W.Frag) (CA : CAs) (W : WX) (ifs : List Expr) (tH : TT) (t : TB) : Prop where
  pe : PTs X ifs tH
  sim : SimT K CA W tH t
theorem wts_nil : WTs X K CA W [] L2.tYes dYes := ⟨pts_nil, fun m h H σ ρ Q' S t => t.here S.hr rfl⟩
theorem wts_one {c : Expr} {hB : TT} {tB : TB} (h : WT X K CA W c hB tB) : WTs X K CA W [c] hB tB := ⟨pts_one h.pe, h.sim⟩
section
variable {elt kx vx : Expr} {ifs : List Expr} {pos : Pos} {gH : TG} {tg : TGD} {hT : TT} {tt : TB} {he hk hv : TE} {te tk tv : TD} {wH : TI} {ti : TDw} {st : Stmt}
theorem we_lc (nm : Bool) {scope : Scope} {own : List (Str × Nat)} {sl : List Nat} (hc : X.calm = true) (hN : X.N.Nodup) (hi : WI X K CA W tge iter wH ti) (ok : BlkOk X.N X.env.scope scope own)
    (hg : ∀ (s : Shared) (H : Hp) (C : Addr) (cl : List (Str × Addr)) (fp : List Addr), WG (X.blk s H scope (compEnvC scope cl C X.env) fp) K CA tge sl gH tg)
    (ht : ∀ (s : Shared) (H : Hp) (C : Addr) (cl : List (Str × Addr)) (fp : List Addr), WTs (X.blk s H scope (compEnvC scope cl C X.env) fp) K CA W0 ifs hT tt)
    (hel : ∀ (s : Shared) (H : Hp) (C : Addr) (cl : List (Str × Addr)) (fp : List Addr), WE (X.blk s H scope (compEnvC scope cl C X.env) fp) K CA W0 elt he te)
    (ho : ∀ j, j ∈ sl → j ∈ own.map (·.2)) (hs : ∀ x, foldedSetIterable iter X.env x = pure x := by intro _; rfl) : WE X K CA W (.ListComp elt [⟨tge, iter, ifs, 0⟩] scope pos) (tLcU X wH gH hT he (own.map (·.2))) (dLc nm ti tg tt te (own.map (·.2))) :=
  ⟨pe_unl (pe_lc hc hN hi.pe ok (fun s H C cl fp => (hg s H C cl fp).pe) (fun s H C cl fp => (ht s H C cl fp).pe) (fun s H C cl fp => (hel s H C cl fp).pe) hs), sim_lc hi.sim (hg X.s_0 X.H_0 0 [] []).sim (ht X.s_0 X.H_0 0 [] []).sim (hel X.s_0 X.H_0 0 [] []).sim ho⟩
/-- name = [..] -/
theorem ws_setLc (nm : Bool) {i : Nat} {y : Str} {py spos : Pos} {scope : Scope} {own : List (Str × Nat)} {sl : List Nat} (hc : X.calm = true) (hN : X.N.Nodup) (hy : X.N[i]? = some y) (hyl : X.env.scope.names.lookup y = some .local)
    (hi : WI X K CA W tge iter wH ti) (ok : BlkOk X.N X.env.scope scope own)
    (hg : ∀ (s : Shared) (H : Hp) (C : Addr) (cl : List (Str × Addr)) (fp : List Addr), WG (X.blk s H scope (compEnvC scope cl C X.env) fp) K CA tge sl gH tg)
    (ht : ∀ (s : Shared) (H : Hp) (C : Addr) (cl : List (Str × Addr)) (fp : List Addr), WTs (X.blk s H scope (compEnvC scope cl C X.env) fp) K CA W0 ifs hT tt)
    (hel : ∀ (s : Shared) (H : Hp) (C : Addr) (cl : List (Str × Addr)) (fp : List Addr), WE (X.blk s H scope (compEnvC scope cl C X.env) fp) K CA W0 elt he te)
    (ho : ∀ j, j ∈ sl → j ∈ own.map (·.2)) (hsw : swapsWith (.ListComp elt [⟨tge, iter, ifs, 0⟩] scope pos) (some (.Name y py)) spos.line X.env = pure true := by rfl) (hs : ∀ x, foldedSetIterable iter X.env x = pure x := by intro _; rfl) :
    WS X K CA W (.Assign [.Name y py] (.ListComp elt [⟨tge, iter, ifs, 0⟩] scope pos) spos) (fun D σ H => tAsg (tLc wH gH hT he (own.map (·.2))) (gName i) (unlE X D) σ H) (dAsg (dLc nm ti tg tt te (own.map (·.2))) (gdName i)) :=
  ⟨ps_unl (ps_setLc hc hN hy hyl hsw hi.pe ok (fun s H C cl fp => (hg s H C cl fp).pe) (fun s H C cl fp => (ht s H C cl fp).pe) (fun s H C cl fp => (hel s H C cl fp).pe) hs),
    sim_asg (sim_lc hi.sim (hg X.s_0 X.H_0 0 [] []).sim (ht X.s_0 X.H_0 0 [] []).sim (hel X.s_0 X.H_0 0 [] []).sim ho) sim_gName⟩
theorem we_dc (nm : Bool) {scope : Scope} {own : List (Str × Nat)} {sl : List Nat} (hc : X.calm = true) (hN : X.N.Nodup) (hi : WI X K CA W tge iter wH ti) (ok : BlkOk X.N X.env.scope scope own)
    (hg : ∀ (s : Shared) (H : Hp) (C : Addr) (cl : List (Str × Addr)) (fp : List Addr), WG (X.blk s H scope (compEnvC scope cl C X.env) fp) K CA tge sl gH tg)
    (ht : ∀ (s : Shared) (H : Hp) (C : Addr) (cl : List (Str × Addr)) (fp : List Addr), WTs (X.blk s H scope (compEnvC scope cl C X.env) fp) K CA W0 ifs hT tt)
    (hek : ∀ (s : Shared) (H : Hp) (C : Addr) (cl : List (Str × Addr)) (fp : List Addr), WE (X.blk s H scope (compEnvC scope cl C X.env) fp) K CA W0 kx hk tk)
    (hev : ∀ (s : Shared) (H : Hp) (C : Addr) (cl : List (Str × Addr)) (fp : List Addr), WE (X.blk s H scope (compEnvC scope cl C X.env) fp) K CA W0 vx hv tv)
    (ho : ∀ j, j ∈ sl → j ∈ own.map (·.2)) (hs : ∀ x, foldedSetIterable iter X.env x = pure x := by intro _; rfl) : WE X K CA W (.DictComp kx vx [⟨tge, iter, ifs, 0⟩] scope pos) (tDcU X wH gH hT hk hv (own.map (·.2))) (dDc nm ti tg tt tk tv (own.map (·.2))) :=
  ⟨pe_unl (pe_dc hc hN hi.pe ok (fun s H C cl fp => (hg s H C cl fp).pe) (fun s H C cl fp => (ht s H C cl fp).pe) (fun s H C cl fp => (hek s H C cl fp).pe) (fun s H C cl fp => (hev s H C cl fp).pe) hs), sim_dc hi.sim (hg X.s_0 X.H_0 0 [] []).sim (ht X.s_0 X.H_0 0 [] []).sim (hek X.s_0 X.H_0 0 [] []).sim (hev X.s_0 X.H_0 0 [] []).sim ho⟩
end
end
end CM
namespace CM
open PySem PySem.Spec PyProof.Rows L2

section
variable {K : PySem.W.Frag} {CA : CAs} {W : WX} {m : Mp} {h : CH} {H : Hp} {σ : L2.St} {Q' : VK} {k : Nat} {o o' : MO} {u : HO} {d : D} {v : V}
theorem PostG.put (t : PostE K CA W m h H σ Q' (.ok d (h.put k o'))) (S : HR K CA m h H) (e : h.ob k = some o) (nl : NotLck o) (x : MOk K CA m (h.put k o') (upd H (m k) u) (m k) o') (r : Rp K CA m h H v d) : Q' v (upd H (m k) u) :=
  t m v _ (stp_put S e nl) (S.put e x) (r.move (stp_put S e nl))
theorem rp_ref (r : Rp K CA m h H v (.ref k)) : v = .ref (m k) := by cases r; rfl
theorem mo_lst {ds : List D} (S : HR K CA m h H) (e : h.ob k = some (.lst ds)) : ∃ xs, H (m k) = some (.lst xs) ∧ RpAll K CA m h H xs ds := by
  have x := (S.ob k _ e).2
  cases x with
  | lst q r => exact ⟨_, q, r⟩
theorem mo_dct {ds : List (Key × D)} (S : HR K CA m h H) (e : h.ob k = some (.dct ds)) : ∃ xs, H (m k) = some (.dK xs) ∧ xs.map (·.1) = ds.map (·.1) ∧ RpAll K CA m h H (xs.map (·.2)) (ds.map (·.2)) := by
  have x := (S.ob k _ e).2
  cases x with
  | dct q en r => exact ⟨_, q, en, r⟩
theorem mo_obj {c : Nat} {ds : List (Str × D)} (S : HR K CA m h H) (e : h.ob k = some (.obj c ds)) : ∃ dx xs, H (m k) = some (.ins (CA c) dx xs) ∧ xs.map (·.1) = ds.map (·.1) ∧ RpAll K CA m h H (xs.map (·.2)) (ds.map (·.2)) := by
  have x := (S.ob k _ e).2
  cases x with
  | obj q en r => exact ⟨_, _, q, en, r⟩
theorem mo_dctT {ds : List (List Key × D)} (S : HR K CA m h H) (e : h.ob k = some (.dctT ds)) : ∃ xs, H (m k) = some (.dT xs) ∧ xs.map (·.1) = ds.map (·.1) ∧ RpAll K CA m h H (xs.map (·.2)) (ds.map (·.2)) := by
  have x := (S.ob k _ e).2
  cases x with
  | dctT q en r => exact ⟨_, q, en, r⟩
end
/-! ### methods of built-in objects -/
abbrev FM := D → List D → CH → R D
def isTy (T : String) (x : D) (h : CH) : Bool := match T with
  | "list" => (lstOf h x).isSome
  | "dict" => match x with
    | .ref k => match h.ob k with
      | some (.dct _) => true
      | _ => false
    | _ => false
  | "str" => match x with
    | .str _ => true
    | _ => false
  | _ => false
def dBM (T : String) (f : FM) (to : TD) (ts : TDs) : TD := fun ρ h => (to ρ h).bind fun x h => if isTy T x h = true then (ts ρ h).bind fun xs h => f x xs h else .no
def dBM0 (T : String) (f : FM) (to : TD) : TD := fun ρ h => (to ρ h).bind fun x h => if isTy T x h = true then f x [] h else .no
def SimM (K : PySem.W.Frag) (CA : CAs) (r : V → List V → Hp → VK → Prop) (f : FM) : Prop := ∀ (W : WX) (σ : L2.St) (m : Mp) (h : CH) (H : Hp) (x : V) (dx : D) (xs : List V) (ds : List D) (Q' : VK), HR K CA m h H → Rp K CA m h H x dx → RpAll K CA m h H xs ds → PostE K CA W m h H σ Q' (f dx ds h) → r x xs H Q'
section
variable {X : Cx} {K : PySem.W.Frag} {CA : CAs} {W : WX} {m : Mp} {h : CH} {H : Hp} {e o : Expr} {es : List Expr} {T : String} {r : V → List V → Hp → VK → Prop} {f : FM} {ha : TE} {ta : TD} {hs : TA} {ts : TDs}
theorem isTy_ok {x : V} {d : D} (S : HR K CA m h H) (r : Rp K CA m h H x d) (t : isTy T d h = true) : tyV K T x H := by
  unfold isTy at t
  split at t
  · obtain ⟨ds, e⟩ := Option.isSome_iff_exists.mp t
    obtain ⟨a, xs, rfl, e1, _⟩ := rp_lst S r e
    exact .inl ⟨rfl, xs, .of e1⟩
  · split at t
    · split at t
      · rename_i e
        obtain ⟨xs, q, _⟩ := mo_dct S e
        cases r
        exact .inr (.inr (.inl ⟨rfl, .inl ⟨_, q⟩⟩))
      · cases t
    · cases t
  · split at t
    · cases r; rfl
    · cases t
  · cases t
theorem we_bm (s : SimM K CA r f) (x : WE X K CA W o ha ta) (y : WA X K CA W es hs ts) (hp : PE X o ha → PA X es hs → PE X e (tBM K T r ha hs)) : WE X K CA W e (tBM K T r ha hs) (dBM T f ta ts) :=
  ⟨hp x.pe y.pe, fun m h H σ ρ Q' S t => x.sim m h H σ ρ _ S (t.bind fun d h1 m1 v H1 s1 S1 r1 t1 => by
    obtain ⟨c, t1⟩ := post_ite t1
    exact ⟨isTy_ok S1 r1 c, y.sim m1 h1 H1 σ ρ _ (S.move s1 S1) (t1.bind fun ds h2 m2 vs H2 s2 S2 r2 t2 => s W σ m2 h2 H2 v d vs ds Q' S2 (r1.move s2) r2 t2)⟩)⟩
theorem we_bm0 (s : SimM K CA r f) (x : WE X K CA W o ha ta) (hp : PE X o ha → PE X e (tBM0 K T r ha)) : WE X K CA W e (tBM0 K T r ha) (dBM0 T f ta) :=
  ⟨hp x.pe, fun m h H σ ρ Q' S t => x.sim m h H σ ρ _ S (t.bind fun d h1 m1 v H1 s1 S1 r1 t1 => by
    obtain ⟨c, t1⟩ := post_ite t1
    exact ⟨isTy_ok S1 r1 c, s W σ m1 h1 H1 v d [] [] Q' S1 r1 .nil t1⟩)⟩
end
def fAppend : FM := fun x xs h => match x, xs with
  | .ref k, [y] => match h.ob k with
    | some (.lst ds) => if ds.length < sizeLine then .ok .non (h.put k (.lst (ds ++ [y]))) else .no
    | _ => .no
  | _, _ => .no
def fExtend : FM := fun x xs h => match x, xs with
  | .ref k, [y] => match h.ob k, lstOf h y with
    | some (.lst ds), some es => if ds.length + es.length ≤ sizeLine then .ok .non (h.put k (.lst (ds ++ es))) else .no
    | _, _ => .no
  | _, _ => .no
def fPop : FM := fun x xs h => match x, xs with
  | .ref k, [] => match h.ob k with
    | some (.lst ds) => match ds[ds.length - 1]? with
      | some y => .ok y (h.put k (.lst ds.dropLast))
      | none => .no
    | _ => .no
  | _, _ => .no
def fPopAt : FM := fun x xs h => match x, xs with
  | .ref k, [.int i] => match h.ob k with
    | some (.lst ds) => if -(2 ^ 63) ≤ i ∧ i < 2 ^ 63 then (match seqIndex? i ds.length with
      | some j => (match ds[j]? with
        | some y => .ok y (h.put k (.lst (ds.eraseIdx j)))
        | none => .no)
      | none => .no) else .no
    | _ => .no
  | _, _ => .no
def fClear : FM := fun x xs h => match x, xs with
  | .ref k, [] => match h.ob k with
    | some (.lst _) => .ok .non (h.put k (.lst []))
    | _ => .no
  | _, _ => .no
def fInsert : FM := fun x xs h => match x, xs with
  | .ref k, [.int i, y] => match h.ob k with
    | some (.lst ds) => if ds.length < sizeLine ∧ 0 ≤ i ∧ i < 2 ^ 63 then .ok .non (h.put k (.lst (ds.take i.toNat ++ [y] ++ ds.drop i.toNat))) else .no
    | _ => .no
  | _, _ => .no
section
variable {K : PySem.W.Frag} {CA : CAs}
theorem sim_append : SimM K CA rAppend fAppend := by
  intro W σ m h H x dx xs ds Q' S rx rs t
  unfold fAppend at t
  split at t
  · split at t
    · rename_i e
      obtain ⟨l, t⟩ := post_ite t
      obtain ⟨ys, q, r⟩ := mo_lst S e
      cases rs with
      | @cons v _ _ _ r1 r2 =>
        cases r2
        exact ⟨_, ys, v, rp_ref rx, rfl, q, by rw [r.length]; exact l, t.put S e trivial (.lst upd_same ((r.append (.cons r1 .nil)).mv (mv_put e))) .non⟩
    · exact t.elim
  · exact t.elim
theorem sim_extend : SimM K CA rExtend fExtend := by
  intro W σ m h H x dx xs ds Q' S rx rs t
  unfold fExtend at t
  split at t
  · split at t
    · rename_i e e2
      obtain ⟨l, t⟩ := post_ite t
      obtain ⟨ys, q, r⟩ := mo_lst S e
      cases rs with
      | cons r1 r2 =>
        cases r2
        obtain ⟨b, zs, rfl, q2, rz⟩ := rp_lst S r1 e2
        exact ⟨_, b, ys, zs, rp_ref rx, rfl, q, q2, by rw [r.length, rz.length]; exact l, t.put S e trivial (.lst upd_same ((r.append rz).mv (mv_put e))) .non⟩
    · exact t.elim
  · exact t.elim
theorem rps_dropLast {m : Mp} {h : CH} {H : Hp} {vs : List V} {ds : List D} (r : RpAll K CA m h H vs ds) : RpAll K CA m h H vs.dropLast ds.dropLast := by
  rw [List.dropLast_eq_take, List.dropLast_eq_take, r.length]
  exact r.take _
theorem sim_pop : SimM K CA rPop fPop := by
  intro W σ m h H x dx xs ds Q' S rx rs t
  unfold fPop at t
  split at t
  · split at t
    · rename_i e
      obtain ⟨ys, q, r⟩ := mo_lst S e
      cases rs
      split at t
      · rename_i ey
        obtain ⟨v, ev, rv⟩ := r.getD ey
        exact ⟨_, ys, v, rp_ref rx, rfl, q, by rw [r.length]; exact ev, t.put S e trivial (.lst upd_same ((rps_dropLast r).mv (mv_put e))) rv⟩
      · exact t.elim
    · exact t.elim
  · exact t.elim
theorem sim_popAt : SimM K CA rPopAt fPopAt := by
  intro W σ m h H x dx xs ds Q' S rx rs t
  unfold fPopAt at t
  split at t
  · split at t
    · rename_i e
      obtain ⟨⟨l1, l2⟩, t⟩ := post_ite t
      obtain ⟨ys, q, r⟩ := mo_lst S e
      cases rs with
      | cons r1 r2 =>
        cases r2
        cases r1
        split at t
        · rename_i j ej
          split at t
          · rename_i ey
            obtain ⟨v, ev, rv⟩ := r.getD ey
            exact ⟨_, ys, _, j, v, rp_ref rx, rfl, q, l1, l2, by rw [r.length]; exact ej, ev, t.put S e trivial (.lst upd_same ((r.eraseIdx _).mv (mv_put e))) rv⟩
          · exact t.elim
        · exact t.elim
    · exact t.elim
  · exact t.elim
theorem sim_clear : SimM K CA rClear fClear := by
  intro W σ m h H x dx xs ds Q' S rx rs t
  unfold fClear at t
  split at t
  · split at t
    · rename_i e
      obtain ⟨ys, q, r⟩ := mo_lst S e
      cases rs
      exact ⟨_, ys, rp_ref rx, rfl, q, t.put S e trivial (.lst upd_same .nil) .non⟩
    · exact t.elim
  · exact t.elim
abbrev rInsert : V → List V → Hp → VK → Prop := fun x vs H Q => ∃ (l : Addr) (xs : List V) (i : Int) (y : V), x = .ref l ∧ vs = [.int i, y] ∧ H l = some (.lst xs) ∧ xs.length < sizeLine ∧ 0 ≤ i ∧ i < 2 ^ 63 ∧
    Q .non (upd H l (.lst (xs.take i.toNat ++ [y] ++ xs.drop i.toNat)))
theorem sim_insert : SimM K CA rInsert fInsert := by
  intro W σ m h H x dx xs ds Q' S rx rs t
  unfold fInsert at t
  split at t
  · split at t
    · rename_i e
      obtain ⟨⟨l1, l2, l3⟩, t⟩ := post_ite t
      obtain ⟨ys, q, r⟩ := mo_lst S e
      cases rs with
      | cons r1 r2 =>
        cases r2 with
        | @cons v _ _ _ r2 r3 =>
          cases r1
          cases r3
          exact ⟨_, ys, _, v, rp_ref rx, rfl, q, by rw [r.length]; exact l1, l2, l3, t.put S e trivial (.lst upd_same ((((r.take _).append (.cons r2 .nil)).append (r.drop _)).mv (mv_put e))) .non⟩
    · exact t.elim
  · exact t.elim
end
/-! ### dicts: get, pop, del -/
def dropD (kvs : List (Key × D)) (k : Key) : List (Key × D) := kvs.filter fun kv => decide (kv.1 ≠ k)
def dGet1 (td tk : TD) : TD := fun ρ h => (td ρ h).bind fun x h => if (dctOf h x).isSome = true then (tk ρ h).bind fun y h => match dctOf h x, keyD y with
  | some kvs, some k => .ok ((dGet kvs k).getD .non) h
  | _, _ => .no
  else .no
def dGet2 (td tk tx : TD) : TD := fun ρ h => (td ρ h).bind fun x h => if (dctOf h x).isSome = true then (tk ρ h).bind fun y h => (tx ρ h).bind fun z h => match dctOf h x, keyD y with
  | some kvs, some k => .ok ((dGet kvs k).getD z) h
  | _, _ => .no
  else .no
def refOf : D → Option Nat
  | .ref r => some r
  | _ => none
theorem refOf_eq {d : D} {r : Nat} (e : refOf d = some r) : d = .ref r := by cases d <;> first | (cases e; rfl) | cases e
def dPop1 (td tk : TD) : TD := fun ρ h => (td ρ h).bind fun x h => if (dctOf h x).isSome = true then (tk ρ h).bind fun y h => match refOf x, keyD y with
  | some r, some k => match h.ob r with
    | some (.dct kvs) => match dGet kvs k with
      | some d => .ok d (h.put r (.dct (dropD kvs k)))
      | none => .no
    | _ => .no
  | _, _ => .no
  else .no
def dDel (td tk : TD) : SD := fun ρ h => (td ρ h).toS ρ fun x h => (tk ρ h).toS ρ fun y h => match refOf x, keyD y with
  | some r, some k => match h.ob r with
    | some (.dct kvs) => if (dGet kvs k).isSome = true then .nx ρ (h.put r (.dct (dropD kvs k))) else .no
    | _ => .no
  | _, _ => .no
section
variable {X : Cx} {K : PySem.W.Frag} {CA : CAs} {W : WX} {m : Mp} {h : CH} {H : Hp} {e o : Expr} {ha hk hx : TE} {ta tk tx : TD} {st : Stmt} {a b : Expr}
theorem rp_drop {k : Key} : ∀ {kvs : List (Key × V)} {ds : List (Key × D)}, kvs.map (·.1) = ds.map (·.1) → RpAll K CA m h H (kvs.map (·.2)) (ds.map (·.2)) → (dropK kvs k).map (·.1) = (dropD ds k).map (·.1) ∧ RpAll K CA m h H ((dropK kvs k).map (·.2)) ((dropD ds k).map (·.2))
  | [], [], _, _ => ⟨rfl, .nil⟩
  | [], _ :: _, e, _ => by simp at e
  | _ :: _, [], e, _ => by simp at e
  | p :: kvs, q :: ds, e, r => by
    simp only [List.map_cons, List.cons.injEq] at e
    cases r with
    | cons r1 r2 =>
      obtain ⟨i1, i2⟩ := rp_drop (k := k) e.2 r2
      unfold dropK dropD
      rw [List.filter_cons, List.filter_cons, e.1]
      by_cases c : q.1 = k
      · simp only [c, ne_eq, not_true, decide_false, Bool.false_eq_true, if_false]
        exact ⟨i1, i2⟩
      · simp only [c, ne_eq, not_false_iff, decide_true, if_true, List.map_cons]
        exact ⟨by rw [e.1]; exact congrArg _ i1, .cons r1 i2⟩
theorem isD_of {x : V} {d : D} (S : HR K CA m h H) (r : Rp K CA m h H x d) (c : (dctOf h d).isSome = true) : ∃ a, x = .ref a ∧ IsD H a := by
  obtain ⟨kvs, e⟩ := Option.isSome_iff_exists.mp c
  obtain ⟨a, o, hk, rfl, e1, c, en, r⟩ := rp_dct S r e
  refine ⟨a, rfl, .inl ⟨hk, ?_⟩⟩
  rcases core_dK c with rfl | ⟨ob, rfl⟩
  · exact .inl e1
  · exact .inr ⟨ob, e1⟩
theorem get_rel {x y : V} {d e : D} {kvs : List (Key × D)} {k : Key} (S : HR K CA m h H) (rx : Rp K CA m h H x d) (ry : Rp K CA m h H y e) (ed : dctOf h d = some kvs) (ek : keyD e = some k) : ∃ a o, x = .ref a ∧ DGet H a y o ∧ ((∃ v z, o = some v ∧ dGet kvs k = some z ∧ Rp K CA m h H v z) ∨ (o = none ∧ dGet kvs k = none)) := by
  obtain ⟨a, o, hk, rfl, e1, c, en, r⟩ := rp_dct S rx ed
  have ey := rp_key ry ek
  subst ey
  refine ⟨a, valV hk k, rfl, dget_core e1 c, ?_⟩
  rcases rp_dget (k := k) en r with ⟨v, z, h1, h2, h3⟩ | ⟨h1, h2⟩
  · exact .inl ⟨v, z, h1, h2, h3⟩
  · exact .inr ⟨h1, h2⟩
theorem we_get1 (x : WE X K CA W o ha ta) (y : WE X K CA W a hk tk) (hp : PE X o ha → PE X a hk → PE X e (tDGet1 ha hk)) : WE X K CA W e (tDGet1 ha hk) (dGet1 ta tk) :=
  ⟨hp x.pe y.pe, fun m h H σ ρ Q' S t => x.sim m h H σ ρ _ S (t.bind fun d h1 m1 v H1 s1 S1 r1 t1 => by
    obtain ⟨c, t1⟩ := post_ite t1
    obtain ⟨a0, rfl, isd⟩ := isD_of S1 r1 c
    refine ⟨a0, rfl, isd, y.sim m1 h1 H1 σ ρ _ (S.move s1 S1) (t1.bind fun e2 h2 m2 w H2 s2 S2 r2 t2 => ?_)⟩
    split at t2
    · rename_i kvs k ed ek
      obtain ⟨a', o', q1, q2, q3⟩ := get_rel S2 (r1.move s2) r2 ed ek
      cases q1
      refine ⟨o', q2, ?_⟩
      rcases q3 with ⟨v, z, rfl, ez, rv⟩ | ⟨rfl, ez⟩
      · rw [ez] at t2; exact t2.here S2 rv
      · rw [ez] at t2; exact t2.here S2 .non
    · exact t2.elim)⟩
theorem we_get2 (x : WE X K CA W o ha ta) (y : WE X K CA W a hk tk) (z : WE X K CA W b hx tx) (hp : PE X o ha → PE X a hk → PE X b hx → PE X e (tDGet2 ha hk hx)) : WE X K CA W e (tDGet2 ha hk hx) (dGet2 ta tk tx) :=
  ⟨hp x.pe y.pe z.pe, fun m h H σ ρ Q' S t => x.sim m h H σ ρ _ S (t.bind fun d h1 m1 v H1 s1 S1 r1 t1 => by
    obtain ⟨c, t1⟩ := post_ite t1
    obtain ⟨a0, rfl, isd⟩ := isD_of S1 r1 c
    refine ⟨a0, rfl, isd, y.sim m1 h1 H1 σ ρ _ (S.move s1 S1) (t1.bind fun e2 h2 m2 w H2 s2 S2 r2 t2 => ?_)⟩
    refine z.sim m2 h2 H2 σ ρ _ ((S.move s1 S1).move s2 S2) (t2.bind fun e3 h3 m3 w3 H3 s3 S3 r3 t3 => ?_)
    split at t3
    · rename_i kvs k ed ek
      obtain ⟨a', o', q1, q2, q3⟩ := get_rel S3 ((r1.move s2).move s3) (r2.move s3) ed ek
      cases q1
      refine ⟨o', q2, ?_⟩
      rcases q3 with ⟨v, z, rfl, ez, rv⟩ | ⟨rfl, ez⟩
      · rw [ez] at t3; exact t3.here S3 rv
      · rw [ez] at t3; exact t3.here S3 r3
    · exact t3.elim)⟩
theorem we_dpop1 (x : WE X K CA W o ha ta) (y : WE X K CA W a hk tk) (hp : PE X o ha → PE X a hk → PE X e (tDPop1 ha hk)) : WE X K CA W e (tDPop1 ha hk) (dPop1 ta tk) :=
  ⟨hp x.pe y.pe, fun m h H σ ρ Q' S t => x.sim m h H σ ρ _ S (t.bind fun d h1 m1 v H1 s1 S1 r1 t1 => by
    obtain ⟨c, t1⟩ := post_ite t1
    obtain ⟨a0, rfl, isd⟩ := isD_of S1 r1 c
    refine ⟨a0, rfl, isd, y.sim m1 h1 H1 σ ρ _ (S.move s1 S1) (t1.bind fun e2 h2 m2 w H2 s2 S2 r2 t2 => ?_)⟩
    split at t2
    · rename_i r k er ek
      have er := refOf_eq er
      subst er
      split at t2
      · rename_i kvs eo
        split at t2
        · rename_i d' eg
          obtain ⟨hkv, q, en, rr⟩ := mo_dct S2 eo
          have ey := rp_key r2 ek
          have ea := rp_ref (r1.move s2)
          cases ea
          rcases rp_dget (k := k) en rr with ⟨v, z, e1, e2, rv⟩ | ⟨_, e2⟩
          · rw [eg] at e2
            cases e2
            obtain ⟨i1, i2⟩ := rp_drop (k := k) en rr
            exact ⟨hkv, k, v, q, ey, e1, t2.put S2 eo trivial (.dct upd_same i1 (i2.mv (mv_put eo))) rv⟩
          · rw [eg] at e2; cases e2
        · exact t2.elim
      · exact t2.elim
    · exact t2.elim)⟩
theorem ws_del (x : WE X K CA W o ha ta) (y : WE X K CA W a hk tk) (hp : PE X o ha → PE X a hk → PS X st (sDDel ha hk)) : WS X K CA W st (sDDel ha hk) (dDel ta tk) :=
  ⟨hp x.pe y.pe, fun m h H σ ρ D' S q => x.sim m h H σ ρ _ S (PostS.bind S q fun d h1 m1 v H1 s1 S1 r1 t1 => y.sim m1 h1 H1 σ ρ _ (S.move s1 S1) (PostS.bind (S.move s1 S1) t1 fun e2 h2 m2 w H2 s2 S2 r2 t2 => by
    split at t2
    · rename_i r k er ek
      have er := refOf_eq er
      subst er
      split at t2
      · rename_i kvs eo
        by_cases c : (dGet kvs k).isSome = true
        · rw [if_pos c] at t2
          obtain ⟨hkv, q, en, rr⟩ := mo_dct S2 eo
          have ey := rp_key r2 ek
          have ea := rp_ref (r1.move s2)
          obtain ⟨i1, i2⟩ := rp_drop (k := k) en rr
          refine ⟨_, hkv, k, ea, q, ey, ?_, t2 m2 σ _ (stp_put S2 eo trivial) (((S.move s1 S1).move s2 S2).move (stp_put S2 eo trivial) (S2.put eo (.dct upd_same i1 (i2.mv (mv_put eo)))))⟩
          rcases rp_dget (k := k) en rr with ⟨v, z, e1, e2, rv⟩ | ⟨_, e2⟩
          · rw [e1]; rfl
          · rw [e2] at c; cases c
        · rw [if_neg c] at t2; exact t2.elim
      · exact t2.elim
    · exact t2.elim))⟩
end
/-! ### displays of dicts -/
def dPairs : List (TD × TD) → DE → CH → R (List (D × D))
  | [], _, h => .ok [] h
  | (tk, tv) :: r, ρ, h => (tk ρ h).bind fun x h => (tv ρ h).bind fun y h => (dPairs r ρ h).bind fun ps h => .ok ((x, y) :: ps) h
def keysOf : List (D × D) → Option (List (Key × D))
  | [] => some []
  | (x, y) :: r => match keyD x, keysOf r with
    | some k, some ks => some ((k, y) :: ks)
    | _, _ => none
def mergeD (kvs more : List (Key × D)) : List (Key × D) := more.foldl (fun acc kv => dPut acc kv.1 kv.2) kvs
def dDisp (nm : Bool) (ts : List (TD × TD)) : TD := fun ρ h => (dPairs ts ρ h).bind fun ps h => match keysOf ps with
  | some kvs => if kvs.length ≤ 15 then mkD nm (mergeD [] kvs) h else .no
  | none => .no
def dDNew (nm : Bool) : TD := fun _ h => mkD nm [] h
def RPs (K : PySem.W.Frag) (CA : CAs) : Mp → CH → Hp → List (V × V) → List (D × D) → Prop := fun m h H ps qs => RpAll K CA m h H (ps.map (·.1)) (qs.map (·.1)) ∧ RpAll K CA m h H (ps.map (·.2)) (qs.map (·.2))
def SimP (K : PySem.W.Frag) (CA : CAs) (W : WX) (trs : List (TE × TE)) (ts : List (TD × TD)) : Prop := ∀ (m : Mp) (h : CH) (H : Hp) (σ : L2.St) (ρ : DE) (Q' : List (V × V) → Hp → Prop), SO K CA m h H σ ρ → PostG K CA W (RPs K CA) m h H σ Q' (dPairs ts ρ h) → tPairs trs σ H Q'
structure WP (X : Cx) (K : PySem.W.Frag) (CA : CAs) (W : WX) (pos : Pos) (keys : List (Option Expr)) (values : List Expr) (trs : List (TE × TE)) (ts : List (TD × TD)) : Prop where
  pe : PPs X pos keys values trs
  sim : SimP K CA W trs ts
section
variable {X : Cx} {K : PySem.W.Frag} {CA : CAs} {W : WX} {m : Mp} {h : CH} {H : Hp} {a b : Expr} {hk hv : TE} {tk tv : TD} {pos : Pos}
theorem wp_nil : WP X K CA W pos [] [] [] [] := ⟨pps_nil, fun m h H σ ρ Q' S t => t.here S.hr ⟨.nil, .nil⟩⟩
theorem wp_cons {ks : List (Option Expr)} {vs : List Expr} {trs : List (TE × TE)} {ts : List (TD × TD)} (x : WE X K CA W a hk tk) (y : WE X K CA W b hv tv) (z : WP X K CA W pos ks vs trs ts) : WP X K CA W pos (some a :: ks) (b :: vs) ((hk, hv) :: trs) ((tk, tv) :: ts) :=
  ⟨pps_cons x.pe y.pe z.pe, fun m h H σ ρ Q' S t => x.sim m h H σ ρ _ S (t.bind fun d1 h1 m1 v1 H1 s1 S1 r1 t1 => y.sim m1 h1 H1 σ ρ _ (S.move s1 S1) (t1.bind fun d2 h2 m2 v2 H2 s2 S2 r2 t2 =>
    z.sim m2 h2 H2 σ ρ _ ((S.move s1 S1).move s2 S2) (t2.bind fun qs h3 m3 ps H3 s3 S3 r3 t3 => t3.here S3 ⟨.cons ((r1.move s2).move s3) r3.1, .cons (r2.move s3) r3.2⟩)))⟩
theorem keys_rel : ∀ (ps : List (V × V)) (qs : List (D × D)) (ks : List (Key × D)), RpAll K CA m h H (ps.map (·.1)) (qs.map (·.1)) → RpAll K CA m h H (ps.map (·.2)) (qs.map (·.2)) → keysOf qs = some ks →
    ∃ kvs : List (Key × V), ps = kvs.map (fun kv => (kV kv.1, kv.2)) ∧ kvs.map (·.1) = ks.map (·.1) ∧ RpAll K CA m h H (kvs.map (·.2)) (ks.map (·.2))
  | [], [], ks, _, _, h => by cases h; exact ⟨[], rfl, rfl, .nil⟩
  | [], _ :: _, _, h, _, _ => by cases h
  | _ :: _, [], _, h, _, _ => by cases h
  | (x, y) :: ps, (d1, d2) :: qs, ks, h1, h2, h => by
    cases h1 with
    | cons a1 b1 =>
      cases h2 with
      | cons a2 b2 =>
        simp only [keysOf] at h
        cases hk : keyD d1 with
        | none => rw [hk] at h; cases h
        | some k =>
          cases hr : keysOf qs with
          | none => rw [hk, hr] at h; cases h
          | some r =>
            rw [hk, hr] at h
            cases h
            obtain ⟨kvs, e1, e2, e3⟩ := keys_rel ps qs r b1 b2 hr
            exact ⟨(k, y) :: kvs, by rw [List.map_cons, ← e1]; have ek : x = kV k := rp_key a1 hk; rw [ek], by rw [List.map_cons, List.map_cons, e2], .cons a2 e3⟩
theorem merge_rel : ∀ (more : List (Key × V)) (dmore : List (Key × D)) (kvs : List (Key × V)) (ds : List (Key × D)), more.map (·.1) = dmore.map (·.1) → RpAll K CA m h H (more.map (·.2)) (dmore.map (·.2)) → kvs.map (·.1) = ds.map (·.1) → RpAll K CA m h H (kvs.map (·.2)) (ds.map (·.2)) →
    (mergeK kvs more).map (·.1) = (mergeD ds dmore).map (·.1) ∧ RpAll K CA m h H ((mergeK kvs more).map (·.2)) ((mergeD ds dmore).map (·.2))
  | [], [], kvs, ds, _, _, e, r => ⟨e, r⟩
  | [], _ :: _, _, _, h, _, _, _ => by simp at h
  | _ :: _, [], _, _, h, _, _, _ => by simp at h
  | (k, y) :: more, (k', d) :: dmore, kvs, ds, h, h', e, r => by
    simp only [List.map_cons, List.cons.injEq] at h
    obtain ⟨rfl, h⟩ := h
    cases h' with
    | cons a b =>
      obtain ⟨e2, r2⟩ := rp_dput (k := k) e r a
      exact merge_rel more dmore _ _ h b e2 r2
theorem doneD0 {σ : L2.St} {m1 m2 : Mp} {h1 h2 : CH} {H1 H2 : Hp} {p : Addr} {nm : Bool} {acc : List (Key × V)} {ds : List (Key × D)} {Q1 : VK} {mb : Mp} {hb : CH} {Hb : Hp} (sb : Stp mb hb Hb m1 h1 H1) (S : HR K CA m1 h1 H1) (n : H1 p = none) {u : HO} (s : Sc p (m1.add p) h1 (upd H1 p u) m2 h2 H2) (S2 : HR K CA m2 h2 H2) (e : H2 p = some (.dK acc)) (en : acc.map (·.1) = ds.map (·.1)) (r : RpAll K CA m2 h2 H2 (acc.map (·.2)) (ds.map (·.2)))
    (t : PostE K CA W mb hb Hb σ Q1 (mkD nm ds h2)) : Q1 (.ref p) H2 := by
  have z2 : m2.z = p :: m1.z := s.z
  cases nm with
  | true =>
    obtain ⟨s3, S3⟩ := done_named (o := .dct ds) S n s S2 (.dct e en (r.named S2 z2))
    refine t _ _ H2 (sb.trans s3) S3 ?_
    have := Rp.ref (K := K) (CA := CA) (m := mpNew ⟨m2.f, m1.z⟩ h2 p) (h := h2.new (.dct ds)) (H := H2) (k := h2.nx) (Nat.lt_succ_self _)
    rw [show (mpNew ⟨m2.f, m1.z⟩ h2 p) h2.nx = p from mpNew_nx] at this
    exact this
  | false => exact t _ _ H2 (sb.trans (stp_done S n s)) (S2.done z2) (.dct (done_data S n s S2) e rfl en (r.done z2))
theorem we_dnew (nm : Bool) : WE X K CA W (.Dict [] [] pos) tDNewK (dDNew nm) := ⟨pe_dnewK, fun m h H σ ρ Q' S t p n => mkD_post S.hr n rfl .nil t⟩
/-- the dict p is made meanwhile -/
theorem we_disp (nm : Bool) {ks : List (Option Expr)} {vs : List Expr} {trs : List (TE × TE)} {ts : List (TD × TD)} (x : WP X K CA W pos ks vs trs ts) (hall : ks.all (·.isSome) = true) (hl : ks.length = vs.length) (h0 : ks ≠ []) (h15 : ks.length ≤ 15) : WE X K CA W (.Dict ks vs pos) (tDisp trs) (dDisp nm ts) := by
  refine ⟨pe_disp x.pe hall hl h0 h15, fun m hh H σ ρ Q' S t p n => ?_⟩
  have S2 := S.hr.add (u := .dK []) n
  have SO2 : SO K CA (m.add p) hh (upd H p (.dK [])) σ ρ := ⟨S2, S.len, fun i d e => let ⟨v, e1, q⟩ := S.sl i d e; ⟨v, e1, q.add n⟩⟩
  have pz : p ∈ (m.add p).z := List.mem_cons_self ..
  refine x.sim (m.add p) hh _ σ ρ _ SO2 ?_
  unfold dDisp at t
  cases ep : dPairs ts ρ hh with
  | no => rw [ep] at t; exact t.elim
  | ex c fs h1 =>
    rw [ep] at t
    intro m1 cls dd H1 s1 S1 xr
    have z2 : m1.z = p :: m.z := s1.z
    refine t ⟨m1.f, m.z⟩ cls dd H1 (stp_done S.hr n s1.sc) (S1.done z2) ?_
    obtain ⟨x1, x2⟩ := xr
    refine ⟨x1, x2.imp id ?_⟩
    rintro ⟨y, hf, e1, e2, e3, e4, e5⟩
    exact ⟨y, hf, e1, (Mp.done_kp z2 y _ e2 e3 trivial).1, e3, e4, e5.done z2⟩
  | ok qs h1 =>
    rw [ep] at t
    intro m1 ps H1 s1 S1 rr
    replace t : PostE K CA W m hh H σ Q' (match keysOf qs with
      | some kvs => if kvs.length ≤ 15 then mkD nm (mergeD [] kvs) h1 else .no
      | none => .no) := t
    cases ek : keysOf qs with
    | none => rw [ek] at t; exact t.elim
    | some kvs =>
      rw [ek] at t
      obtain ⟨l, t⟩ := post_ite t
      obtain ⟨hkv, e1, e2, e3⟩ := keys_rel ps qs kvs rr.1 rr.2 ek
      have pz1 : p ∈ m1.z := by rw [s1.z]; exact pz
      obtain ⟨m3, m4⟩ := merge_rel hkv kvs [] [] e2 e3 rfl .nil
      refine ⟨(s1.zk p pz).trans upd_same, hkv, e1, by rw [len_of e2]; exact l, ?_⟩
      have sm := sc_made (u := .dK (mergeK [] hkv)) S1 pz1
      exact doneD0 .refl S.hr n (s1.sc.trans sm) (S1.made pz1) upd_same m3 (m4.mv sm.toMv) t
end
end CM
namespace CM
open PySem PySem.Spec PyProof.Rows L2

/-! ### fields -/
def putD (f : Str) (v : D) : List (Str × D) → List (Str × D)
  | [] => [(f, v)]
  | (g, x) :: r => if g = f then (g, v) :: r else (g, x) :: putD f v r
/-- an object's class and fields -/
def objOf (h : CH) : D → Option (Nat × List (Str × D))
  | .obj c fs => some (c, fs)
  | .ref k => match h.ob k with
    | some (.obj c fs) => some (c, fs)
    | _ => none
  | _ => none
def fFld (cs : List Nat) (f : Str) : F1 := fun d h => match objOf h d with
  | some (c, fs) => if c ∈ cs then (match fs.lookup f with
    | some x => .ok x h
    | none => .no) else .no
  | none => .no
/-- classes whose instances' attribute f is a field -/
def FldOf (K : PySem.W.Frag) (CA : CAs) (cs : List Nat) (f : Str) : Prop := ∀ c, c ∈ cs → Cls K (CA c) ∧ NoAttr K (CA c) f
theorem FldOf.one {K : PySem.W.Frag} {CA : CAs} {c : Nat} {f : Str} (h1 : Cls K (CA c)) (h2 : NoAttr K (CA c) f) : FldOf K CA [c] f := fun x hx => by
  rw [List.mem_singleton] at hx
  subst hx
  exact ⟨h1, h2⟩
theorem FldOf.cons {K : PySem.W.Frag} {CA : CAs} {c : Nat} {cs : List Nat} {f : Str} (h1 : Cls K (CA c)) (h2 : NoAttr K (CA c) f) (h3 : FldOf K CA cs f) : FldOf K CA (c :: cs) f := fun x hx => by
  rcases List.mem_cons.mp hx with rfl | hx
  · exact ⟨h1, h2⟩
  · exact h3 x hx
section
variable {X : Cx} {K : PySem.W.Frag} {CA : CAs} {W : WX} {m : Mp} {h : CH} {H : Hp} {e o i : Expr} {ha hi : TE} {ta ti : TD} {pos : Pos} {f : Str} {cs : List Nat}
theorem rp_obj {v : V} {d : D} {c : Nat} {fs : List (Str × D)} (S : HR K CA m h H) (r : Rp K CA m h H v d) (e : objOf h d = some (c, fs)) : ∃ a dx hf, v = .ref a ∧ H a = some (.ins (CA c) dx hf) ∧ hf.map (·.1) = fs.map (·.1) ∧ RpAll K CA m h H (hf.map (·.2)) (fs.map (·.2)) := by
  cases r with
  | obj n e1 en r => cases e; exact ⟨_, _, _, rfl, e1, en, r⟩
  | ref l =>
    simp only [objOf] at e
    split at e
    · rename_i q
      cases e
      obtain ⟨dx, xs, q1, q2, q3⟩ := mo_obj S q
      exact ⟨_, dx, xs, rfl, q1, q2, q3⟩
    · cases e
  | _ => cases e
theorem rp_look {d : D} : ∀ {fs : List (Str × V)} {dfs : List (Str × D)}, fs.map (·.1) = dfs.map (·.1) → RpAll K CA m h H (fs.map (·.2)) (dfs.map (·.2)) → dfs.lookup f = some d → ∃ v, fs.lookup f = some v ∧ Rp K CA m h H v d
  | [], [], _, _, h => by cases h
  | [], _ :: _, e, _, _ => by simp at e
  | _ :: _, [], e, _, _ => by simp at e
  | (g, v) :: fs, (g', d') :: dfs, e, r, h => by
    simp only [List.map_cons, List.cons.injEq] at e
    obtain ⟨rfl, e⟩ := e
    cases r with
    | cons r1 r2 =>
      rw [List.lookup_cons] at h ⊢
      cases q : f == g with
      | true => rw [q] at h; simp only [Option.some.injEq] at h; subst h; exact ⟨v, rfl, r1⟩
      | false => rw [q] at h; exact rp_look e r2 h
theorem look_none : ∀ {fs : List (Str × V)} {dfs : List (Str × D)}, fs.map (·.1) = dfs.map (·.1) → dfs.lookup f = none → fs.lookup f = none
  | [], [], _, _ => rfl
  | [], _ :: _, e, _ => by simp at e
  | _ :: _, [], e, _ => by simp at e
  | (g, v) :: fs, (g', d') :: dfs, e, h => by
    simp only [List.map_cons, List.cons.injEq] at e
    obtain ⟨rfl, e⟩ := e
    rw [List.lookup_cons] at h ⊢
    cases q : f == g with
    | true => rw [q] at h; cases h
    | false => rw [q] at h; exact look_none e h
theorem rp_putF {v : V} {d : D} (r' : Rp K CA m h H v d) : ∀ {fs : List (Str × V)} {dfs : List (Str × D)}, fs.map (·.1) = dfs.map (·.1) → RpAll K CA m h H (fs.map (·.2)) (dfs.map (·.2)) →
    (putF f v fs).map (·.1) = (putD f d dfs).map (·.1) ∧ RpAll K CA m h H ((putF f v fs).map (·.2)) ((putD f d dfs).map (·.2))
  | [], [], _, _ => ⟨rfl, .cons r' .nil⟩
  | [], _ :: _, e, _ => by simp at e
  | _ :: _, [], e, _ => by simp at e
  | (g, x) :: fs, (g', y) :: dfs, e, r => by
    simp only [List.map_cons, List.cons.injEq] at e
    obtain ⟨rfl, e⟩ := e
    cases r with
    | cons r1 r2 =>
      obtain ⟨i1, i2⟩ := rp_putF r' e r2
      unfold putF putD
      by_cases q : g = f
      · rw [if_pos q, if_pos q]
        exact ⟨by simp [e], .cons r' r2⟩
      · rw [if_neg q, if_neg q]
        exact ⟨by simp only [List.map_cons]; rw [i1], .cons r1 i2⟩
theorem we_fld (hf : FldOf K CA cs f) (x : WE X K CA W e ha ta) (hb : attributeBase e f X.env (eval e X.env) = eval e X.env := by rfl) (hK : X.K = K := by rfl) : WE X K CA W (.Attribute e f pos) (tFld K ha f) (dUn (fFld cs f) ta) := by
  subst hK
  refine ⟨pe_fld x.pe hb, fun m h H σ ρ Q' S t => x.sim m h H σ ρ _ S (t.bind fun d h1 m1 v H1 s1 S1 r1 t1 => ?_)⟩
  unfold fFld at t1
  split at t1
  · rename_i c fs eo
    by_cases hc : c ∈ cs
    · rw [if_pos hc] at t1
      split at t1
      · rename_i y el
        obtain ⟨a, dx, hfs, rfl, q1, q2, q3⟩ := rp_obj S1 r1 eo
        obtain ⟨u, hu, ru⟩ := rp_look q2 q3 el
        exact ⟨a, _, dx, hfs, u, rfl, q1, (hf c hc).1, (hf c hc).2, hu, t1.here S1 ru⟩
      · exact t1.elim
    · rw [if_neg hc] at t1; exact t1.elim
  · exact t1.elim
/-! ### stores to fields and items -/
def gFldH (K : PySem.W.Frag) (to : TE) (f : Str) : TG := fun v σ H Q => to σ H fun x H1 => ∃ a C dx fs, x = .ref a ∧ H1 a = some (.ins C dx fs) ∧ Cls K C ∧ NoAttr K C f ∧ fs.length < 1000 ∧ Q σ (upd H1 a (.ins C dx (putF f v fs)))
theorem pg_fld {to : TE} (ho : PE X o to) : PG X (.Attribute o f pos) (gFldH X.K to f) := by
  refine ⟨fun pins s σ H v u Q I r hq => ?_⟩
  show wpAny _ X.A (do
    let ov ← holding [u] (eval o X.env)
    standAt pos.atName
    holding [u, ov] (setAttr ov f u)
    release [u, ov] []) _ _ s
  refine wpAny_bind (wpAny_holding (thn (ho.run pins s σ H _ I hq) fun ov s1 q => ?_))
  obtain ⟨x, H1, I1, r1, a, C, dx, fs, rfl, ea, c, n, l, q⟩ := q
  obtain rfl : ov = Value.ref a := r1
  refine wpAny_bind (wpAny_standAt (wpAny_bind (wpAny_holding (setattr_ok I1 ea c n l r fun s3 I3 => ?_))))
  exact wpAny_release ⟨σ, _, I3, q⟩
def gdFld (cs : List Nat) (f : Str) (to : TD) : TGD := fun d ρ h => (to ρ h).calm fun x h => match refOf x with
  | some k => match h.ob k with
    | some (.obj c fs) => if c ∈ cs ∧ fs.length < 1000 then .ok ρ (h.put k (.obj c (putD f d fs))) else .no
    | _ => .no
  | none => .no
theorem PostT'.calm {α β : Type} {RR : Mp → CH → Hp → β → α → Prop} {Q1 : β → Hp → Prop} {σ : L2.St} {sl : List Nat} {Q' : L2.St → Hp → Prop} {r : R α} {k : α → CH → R DE} (q : PostT' K CA m h H σ sl Q' (r.calm k))
    (g : ∀ a h1 m1 b H1, Stp m h H m1 h1 H1 → HR K CA m1 h1 H1 → RR m1 h1 H1 b a → PostT' K CA m1 h1 H1 σ sl Q' (k a h1) → Q1 b H1) : PostG K CA W RR m h H σ Q1 r := by
  cases r with
  | ok a h1 => exact fun m1 b H1 s S rr => g a h1 m1 b H1 s S rr (PostT'.mono (show PostT' K CA m h H σ sl Q' (k a h1) from q) s rfl (fun _ _ => rfl) fun _ z => z)
  | ex c fs h1 => exact q.elim
  | no => exact q.elim
theorem wg_fld (hf : FldOf K CA cs f) (x : WE X K CA W o ha ta) (hK : X.K = K := by rfl) : WG X K CA (.Attribute o f pos) [] (gFldH K ha f) (gdFld cs f ta) := by
  subst hK
  refine ⟨pg_fld x.pe, fun m hh H σ ρ v d Q' S r q => x.sim m hh H σ ρ _ S (PostT'.calm q fun a h1 m1 w H1 s1 S1 r1 q1 => ?_)⟩
  split at q1
  · rename_i k er
    have er := refOf_eq er
    subst er
    split at q1
    · rename_i c fs eo
      by_cases hc : c ∈ cs ∧ fs.length < 1000
      · rw [if_pos hc] at q1
        obtain ⟨dx, hfs, e1, en, rr⟩ := mo_obj S1 eo
        obtain ⟨i1, i2⟩ := rp_putF (f := f) (r.move s1) en rr
        refine ⟨_, _, dx, hfs, rp_ref r1, e1, (hf c hc.1).1, (hf c hc.1).2, by have := congrArg List.length en; simp at this; omega, ?_⟩
        have sp := stp_put (o' := .obj c (putD f d fs)) (u := .ins (CA c) dx (putF f v hfs)) S1 eo trivial
        exact q1 m1 σ _ sp ((S.move s1 S1).move sp (S1.put eo (.obj upd_same i1 (i2.mv (mv_put eo))))) rfl fun _ _ => rfl
      · rw [if_neg hc] at q1; exact q1.elim
    · exact q1.elim
  · exact q1.elim
/-- o[i] = v: a list, a dict -/
def rSetU : V → V → V → Hp → (Hp → Prop) → Prop := fun o i v H Q => rSetL o i v H Q ∨ ∃ a H', o = .ref a ∧ DPut H a i v H' ∧ Q H'
theorem set_U (hu : X.A.units + 1 < cLine) : PSet X rSetU := by
  intro pins s σ H o i v ov iv u Q I ro ri rv hq
  rcases hq with hq | ⟨a, H', rfl, dp, q⟩
  · exact set_list pins s σ H o i v ov iv u Q I ro ri rv hq
  · obtain rfl : ov = Value.ref a := ro
    exact d_setItem hu I dp ri rv fun s4 I4 => ⟨H', I4, q⟩
def gdSub (to ti : TD) : TGD := fun d ρ h => (to ρ h).calm fun x h => (ti ρ h).calm fun y h => match refOf x with
  | some k => match h.ob k with
    | some (.lst ds) => (match y with
      | .int i => (match ixN ds.length i with
        | some j => .ok ρ (h.put k (.lst (ds.set j d)))
        | none => .no)
      | _ => .no)
    | some (.dct kvs) => (match keyD y with
      | some key => if kvs.length < sizeLine then .ok ρ (h.put k (.dct (dPut kvs key d))) else .no
      | none => .no)
    | _ => .no
  | none => .no
theorem wg_sub (hu : X.A.units + 1 < cLine) (x : WE X K CA W o ha ta) (y : WE X K CA W i hi ti) (hp : PE X o ha → PE X i hi → PSet X rSetU → PG X e (gSub ha hi rSetU)) : WG X K CA e [] (gSub ha hi rSetU) (gdSub ta ti) := by
  refine ⟨hp x.pe y.pe (set_U hu), fun m hh H σ ρ v d Q' S r q => x.sim m hh H σ ρ _ S (PostT'.calm q fun a h1 m1 w H1 s1 S1 r1 q1 => y.sim m1 h1 H1 σ ρ _ (S.move s1 S1) (PostT'.calm q1 fun b h2 m2 w2 H2 s2 S2 r2 q2 => ?_))⟩
  split at q2
  · rename_i k er
    have er := refOf_eq er
    subst er
    have ew := rp_ref (r1.move s2)
    have rv := (r.move s1).move s2
    have SS := (S.move s1 S1).move s2 S2
    split at q2
    · rename_i ds eo
      split at q2
      · split at q2
        · rename_i j ej
          obtain ⟨ys, e1, rr⟩ := mo_lst S2 eo
          cases r2
          have sp := stp_put (o' := .lst (ds.set j d)) (u := .lst (ys.set j v)) S2 eo trivial
          exact .inl ⟨_, ys, _, j, ew, rfl, e1, by rw [rr.length]; exact ej, q2 m2 σ _ sp (SS.move sp (S2.put eo (.lst upd_same ((rr.set j rv).mv (mv_put eo))))) rfl fun _ _ => rfl⟩
        · exact q2.elim
      · exact q2.elim
    · rename_i kvs eo
      split at q2
      · rename_i key ek
        by_cases hz : kvs.length < sizeLine
        · rw [if_pos hz] at q2
          obtain ⟨hkv, e1, en, rr⟩ := mo_dct S2 eo
          have ey := rp_key r2 ek
          subst ey
          obtain ⟨i1, i2⟩ := rp_dput (k := key) en rr rv
          have sp := stp_put (o' := .dct (dPut kvs key d)) (u := .dK (putK hkv key v)) S2 eo trivial
          exact .inr ⟨_, _, ew, DPut.k e1 (by rw [len_of en]; exact hz), q2 m2 σ _ sp (SS.move sp (S2.put eo (.dct upd_same i1 (i2.mv (mv_put eo))))) rfl fun _ _ => rfl⟩
        · rw [if_neg hz] at q2; exact q2.elim
      · exact q2.elim
    · exact q2.elim
  · exact q2.elim
end
/-! ### o.f += e -/
def dFldAug (cs : List Nat) (f : Str) (to tv : TD) : SD := fun ρ h => (to ρ h).toS ρ fun x h => match refOf x with
  | some k => match h.ob k with
    | some (.obj c fs) => if c ∈ cs ∧ fs.length < 1000 then (match fs.lookup f with
      | some (.int i) => (tv ρ h).toS ρ fun y h2 => (match y with
        | .int j => (match h2.ob k with
          | some (.obj c2 fs2) => if c2 = c ∧ fs2.length < 1000 then .nx ρ (h2.put k (.obj c (putD f (.int (i + j)) fs2))) else .no
          | _ => .no)
        | _ => .no)
      | _ => .no) else .no
    | _ => .no
  | none => .no
/-! ### slices -/
def cutD (xs : List D) (lo hi : Option Int) : List D := (xs.drop (HT.sIx xs.length 0 lo)).take (HT.sIx xs.length xs.length hi - HT.sIx xs.length 0 lo)
theorem rp_cut {K : PySem.W.Frag} {CA : CAs} {m : Mp} {h : CH} {H : Hp} {vs : List V} {ds : List D} {lo hi : Option Int} (r : RpAll K CA m h H vs ds) : RpAll K CA m h H (cutV vs lo hi) (cutD ds lo hi) := by
  unfold cutV cutD
  rw [r.length]
  exact (r.drop _).take _
abbrev TDo := DE → CH → R (Option Int)
def dNoPart : TDo := fun _ h => .ok none h
def dPart (t : TD) : TDo := fun ρ h => (t ρ h).bind fun d h => match d with
  | .int i => .ok (some i) h
  | _ => .no
def dSl (nm : Bool) (ta : TD) (tl th : TDo) : TD := fun ρ h => (ta ρ h).bind fun x h => (tl ρ h).bind fun l h => (th ρ h).bind fun u h => match x with
  | .tup ds => .ok (.tup (cutD ds l u)) h
  | x => match lstOf h x with
    | some ds => mkL nm (cutD ds l u) h
    | none => .no
def RO : Mp → CH → Hp → Option Int → Option Int → Prop := fun _ _ _ b a => b = a
def SimO (K : PySem.W.Frag) (CA : CAs) (W : WX) (tH : TO) (t : TDo) : Prop := ∀ (m : Mp) (h : CH) (H : Hp) (σ : L2.St) (ρ : DE) (Q' : Option Int → Hp → Prop), SO K CA m h H σ ρ → PostG K CA W RO m h H σ Q' (t ρ h) → tH σ H Q'
structure WO (X : Cx) (K : PySem.W.Frag) (CA : CAs) (W : WX) (e : Option Expr) (tH : TO) (t : TDo) : Prop where
  pe : PO X e tH
  sim : SimO K CA W tH t
section
variable {X : Cx} {K : PySem.W.Frag} {CA : CAs} {W : WX} {e a : Expr} {lo hi : Option Expr} {ha : TE} {ta : TD} {hl hh : TO} {tl th : TDo} {pos p2 : Pos}
theorem wo_none : WO X K CA W none tNoPart dNoPart := ⟨po_none, fun m h H σ ρ Q' S t => t.here S.hr rfl⟩
theorem wo_some (x : WE X K CA W e ha ta) : WO X K CA W (some e) (tPart ha) (dPart ta) := ⟨po_some x.pe, fun m h H σ ρ Q' S t => x.sim m h H σ ρ _ S (t.bind fun d h1 m1 v H1 s1 S1 r1 t1 => by
  split at t1
  · cases r1; exact ⟨_, rfl, t1.here S1 rfl⟩
  · exact t1.elim)⟩
abbrev rSlU (K : PySem.W.Frag) : V → Option Int → Option Int → Hp → VK → Prop := fun x lo hi H Q => rSlL K x lo hi H Q ∨ rSlA K x lo hi H Q
theorem cut_whole {xs : List D} {lo hi : Option Int} (h1 : HT.sIx xs.length 0 lo = 0) (h2 : HT.sIx xs.length xs.length hi = xs.length) : cutD xs lo hi = xs := by
  unfold cutD
  rw [h1, h2]
  simp
theorem we_slice (nm : Bool) (x : WE X K CA W a ha ta) (y : WO X K CA W lo hl tl) (z : WO X K CA W hi hh th) (hK : X.K = K := by rfl) : WE X K CA W (.Subscript a (.Slice lo hi none p2) pos) (tSl (rSlU K) ha hl hh) (dSl nm ta tl th) := by
  subst hK
  refine ⟨pe_slice (sl_list.or sl_tupA) x.pe y.pe z.pe, fun m h H σ ρ Q' S t => x.sim m h H σ ρ _ S (t.bind fun d h1 m1 v H1 s1 S1 r1 t1 => ?_)⟩
  refine y.sim m1 h1 H1 σ ρ _ (S.move s1 S1) (t1.bind fun l h2 m2 l' H2 s2 S2 e2 t2 => ?_)
  cases (show l' = l from e2)
  refine z.sim m2 h2 H2 σ ρ _ ((S.move s1 S1).move s2 S2) (t2.bind fun u h3 m3 u' H3 s3 S3 e3 t3 => ?_)
  cases (show u' = u from e3)
  have r3 := (r1.move s2).move s3
  split at t3
  · obtain ⟨b, xs, rfl, e1, r2⟩ := rp_tup r3
    refine .inr ⟨b, xs, rfl, e1, fun z => ?_, fun _ p n => t3.laid S3 n (.tup (S3.fresh n) upd_same (rps_laid S3 n (rp_cut r2)))⟩
    rename_i ds
    have e : cutD ds l u = ds := cut_whole (by rw [← r2.length]; exact z.1) (by rw [← r2.length]; exact z.2)
    rw [e] at t3
    exact t3.here S3 r3
  · split at t3
    · rename_i ds ed
      obtain ⟨b, xs, rfl, e1, r2⟩ := rp_lst S3 r3 ed
      exact .inl ⟨b, xs, rfl, .of e1, fun p n => mkL_post S3 n (rp_cut r2) t3⟩
    · exact t3.elim
end
end CM
namespace CM
open PySem PySem.Spec PyProof.Rows L2

/-! ### defs, where no object is shown at the moment -/
/-- what a def promises; g: it may show objects, so no guard may be under way -/
structure FnG (P : Program) (w : World) (K : PySem.W.Frag) (mg : Str → Option Value) (base : Heap) (g : Bool) (k : Nat) (f : Addr) (fd : FuncData) (ps : List Str) (sp : Sp) : Prop where
  ln : ∀ vs H Q E, sp vs H Q E → vs.length = ps.length
  go : ∀ (A : Around) (outer : List Env) (s : Shared) (H : Hp) (args : Args) (us : List Value) (vs : List V) (Q : VK) (E : XK), (g = true → A.guards = some []) → Room k A → Env0 P w K mg base A outer s H → BindsTo s fd args (ps.zip us) → Vals vs us →
    sp vs H Q E → codeAny (model P w) A (.call (.ref f) args) (CR (L2.CX P w) outer P w H s Q E) s
theorem FnG.mono {P : Program} {w : World} {K : PySem.W.Frag} {mg : Str → Option Value} {base : Heap} {g : Bool} {j k : Nat} {f : Addr} {fd : FuncData} {ps : List Str} {sp : Sp} (F : FnG P w K mg base g j f fd ps sp) (h : j ≤ k) : FnG P w K mg base g k f fd ps sp :=
  ⟨F.ln, fun A o s H a us vs Q E hg hr => F.go A o s H a us vs Q E hg (hr.mono h)⟩
abbrev cxD (P : Program) (w : World) (K : PySem.W.Frag) (mg : Str → Option Value) (base : Heap) (N : List Str) (qual : Str) (st : Stmt) (f : Addr) (cd : Value) (A : Around) (outer : List Env) (s : Shared) (H : Hp) (E : XK) : Cx :=
  cxOf (L2.CX P w) P w K mg base N qual (defScope st) f cd A outer s H E
abbrev wxD (E : XK) : WX := fun cls d _ H => E cls d H
section
variable {P : Program} {w : World} {K : PySem.W.Frag} {mg : Str → Option Value} {base : Heap} {CA : CAs} {g : Bool}
theorem FnG.mk' {nm qual : Str} {st : Stmt} {f : Addr} {fd : FuncData} {N ps : List Str} {k : Nat} {sp : Sp} (F : Fun K nm qual st f fd) (S : FnScope N ps (defScope st)) (ln : ∀ vs H Q E, sp vs H Q E → vs.length = ps.length)
    (body : ∀ (cd : Value) (A : Around) (outer : List Env) (s : Shared) (H : Hp) (vs : List V) (Q : VK) (E : XK), (g = true → A.guards = some []) → Room k (A.deeper (envOfC qual (defScope st) s.heap.objs.size f cd)) → sp vs H Q E →
      ∃ t, PSs (cxD P w K mg base N qual st f cd A outer s H E) (defBody st) t ∧ t { nx := fun _ H2 => Q .non H2, rt := Q } (start N vs) H) : FnG P w K mg base g (k + 1) f fd ps sp := by
  obtain ⟨x1, x2, x3, x4, x5, x6, cd, x8, x9, rfl, look, code⟩ := F.ex
  refine ⟨ln, fun A outer s H args us vs Q E hg room e0 bd rv hs => ?_⟩
  have len1 := ln _ _ _ _ hs
  have kin : K.In s.heap := e0.mod.kin.keeps fun b o e => (e0.bs b o e).1
  have nl : s.heap.NoLimit := e0.mod.nolimit.keeps fun b o e => (e0.bs b o e).1
  have kinds : ∀ y, y ∈ ps.zip us → (defScope st).names.lookup y.1 = some .local ∨ ((defScope st).names.lookup y.1 = some .cell ∧ ((cellsFrom (s.heap.objs.size + 1) (defScope st).names []).lookup y.1).isSome = true) := by
    rintro ⟨a, b⟩ hm
    exact (S.par a (List.of_mem_zip hm).1).imp id fun q => ⟨q, PySem.W.cellsFrom_some _ _ _ (.inl q)⟩
  refine codeAny_call_function room.depth (kin _ _ look) rfl S.co S.gen rfl (PySem.W.codeRec_of kin code) (bd _ _ _ _ (wpAny_newFunctionEnv_cells S.kind kinds fun env ee s1 hc => ?_))
  cases ee
  refine ⟨nl.keeps hc.toInCall.keep, codeAny_func ?_⟩
  obtain ⟨t, ht, hq⟩ := body cd A outer s H vs Q E hg (room.deeper _) hs
  have inv : Inv (cxD P w K mg base N qual st f cd A outer s H E) [] (start N vs) H s1 := inv_start S room.hd e0 len1 rv hc
  have back : ∀ {σ' : L2.St} {H2 : Hp} {v : V} {u : Value} {s2 : Shared}, Inv (cxD P w K mg base N qual st f cd A outer s H E) [] σ' H2 s2 → RelV v u → Q v H2 → CE outer P w H s Q u s2 := fun {_ H2 v _ _} J r q => ⟨v, H2, J.os, J.bare, J.base, J.hok, r, q⟩
  refine wpAny_mono (ht.run [] s1 (start N vs) H _ inv hq) (fun fl s2 h2 => ?_) fun _ _ z => z
  rcases fl with _ | _ | _ | u
  · obtain ⟨_, _, J, q⟩ := h2
    exact back (v := V.non) (u := Value.none) J rfl q
  · obtain ⟨_, _, _, q⟩ := h2; exact False.elim q
  · obtain ⟨_, _, _, q⟩ := h2; exact False.elim q
  · obtain ⟨_, _, _, J, r, q⟩ := h2
    exact back J r q
theorem FnG.ok {k : Nat} {f : Addr} {fd : FuncData} {ps : List Str} {sp : Sp} (F : FnG P w K mg base false k f fd ps sp) : FnOk P w K mg base (L2.CX P w) k f fd ps sp := ⟨F.ln, fun A o s H a us vs Q E hr => F.go A o s H a us vs Q E (fun z => nomatch z) hr⟩
/-! ### promises about data -/
def spD (K : PySem.W.Frag) (CA : CAs) (n : Nat) (F : FD) : Sp := fun vs H Q E => vs.length = n ∧ ∃ (m : Mp) (h : CH) (ds : List D), HR K CA m h H ∧ RpAll K CA m h H vs ds ∧ PostE K CA (wxD E) m h H [] Q (F ds h)
/-- the slots at a def's entry -/
def startD (N : Nat) (ds : List D) : DE := ds.map some ++ List.replicate (N - ds.length) none
def RS.res : RS → R D
  | .nx _ h => .ok .non h
  | .rt d h => .ok d h
  | .ex _ c fs h => .ex c fs h
  | _ => .no
def bodyF (N : Nat) (u : SD) : FD := fun ds h => (u (startD N ds) h).res
theorem so_start {m : Mp} {h : CH} {H : Hp} {vs : List V} {ds : List D} (N : List Str) (hl : vs.length ≤ N.length) (S : HR K CA m h H) (r : RpAll K CA m h H vs ds) : SO K CA m h H (start N vs) (startD N.length ds) := by
  have hds := r.length
  refine ⟨S, by simp [L2.start, startD, hds], fun i s e => ?_⟩
  unfold startD at e
  by_cases hi : i < ds.length
  · rw [List.getElem?_append_left (by simpa using hi), List.getElem?_map] at e
    cases q : ds[i]? with
    | none => rw [q] at e; cases e
    | some d =>
      rw [q] at e; cases e
      obtain ⟨v, e2, rv⟩ := r.getD q
      refine ⟨v, ?_, rv⟩
      unfold L2.start
      have hi := (List.getElem?_eq_some_iff.mp e2).1
      rw [List.getElem?_append_left (by simpa using hi), List.getElem?_map, e2]
      rfl
  · rw [List.getElem?_append_right (by simpa using hi), List.getElem?_replicate] at e
    split at e <;> cases e
theorem res_post {E : XK} {m : Mp} {h : CH} {H : Hp} {Q : VK} {r : RS} {σ : L2.St} (t : PostE K CA (wxD E) m h H σ Q r.res) : PostS K CA (wxD E) m h H { nx := fun _ H2 => Q .non H2, rt := Q } r := by
  cases r with
  | nx ρ' h' => exact fun m' σ' H' s S => t m' .non H' s S.hr .non
  | rt d h' => exact t
  | bk ρ' h' => exact t.elim
  | ct ρ' h' => exact t.elim
  | ex ρ' c fs h' => exact fun m' cls dd σ' H' s S x => t m' cls dd H' s S.hr x
  | no => exact t
def noxF (F : FD) : FD := fun ds h => (F ds h).calm fun d h => .ok d h
/-- a def, by the reading of its body -/
theorem okD {nm qual : Str} {st : Stmt} {f : Addr} {fd : FuncData} {N ps : List Str} {k n l : Nat} {u : SD} (F : Fun K nm qual st f fd) (S : FnScope N ps (defScope st)) (hm : ps.length = l) (hn : N.length = n)
    (hb : ∀ (cd : Value) (A : Around) (outer : List Env) (s : Shared) (H : Hp) (E : XK), (g = true → A.guards = some []) → Room k (A.deeper (envOfC qual (defScope st) s.heap.objs.size f cd)) →
      Takes (cxD P w K mg base N qual st f cd A outer s H E) (wxD E) → ∃ tS, WSs (cxD P w K mg base N qual st f cd A outer s H E) K CA (wxD E) (defBody st) tS u) : FnG P w K mg base g (k + 1) f fd ps (spD K CA l (bodyF n u)) := by
  subst hm hn
  refine FnG.mk' F S (fun vs H Q E h => h.1) fun cd A outer s H vs Q E hg hr h => ?_
  obtain ⟨hl, m, ch, ds, hR, r, q⟩ := h
  obtain ⟨t, ws⟩ := hb cd A outer s H E hg hr (takes_of rfl rfl rfl rfl)
  have hle : vs.length ≤ N.length := by
    have := congrArg List.length S.pre
    rw [List.length_take] at this
    omega
  exact ⟨t, ws.pe, ws.sim m ch H _ _ _ (so_start N hle hR r) (res_post q)⟩
/-- a getter: no exception leaves it -/
theorem okP {nm qual : Str} {st : Stmt} {fa : Addr} {fd : FuncData} {N ps : List Str} {k l n : Nat} {u : SD} (F : Fun K nm qual st fa fd) (S : FnScope N ps (defScope st)) (hm : ps.length = l) (hn : N.length = n)
    (hb : ∀ (cd : Value) (A : Around) (outer : List Env) (s : Shared) (H : Hp) (E : XK), Room k (A.deeper (envOfC qual (defScope st) s.heap.objs.size fa cd)) →
      ∃ tS, WSs (cxOf L2.CX0 P w K mg base N qual (defScope st) fa cd A outer s H E).nox K CA W0 (defBody st) tS u) : FnOk P w K mg base L2.CX0 (k + 1) fa fd ps (spD K CA l (noxF (bodyF n u))) := by
  subst hm hn
  refine F.ok S (fun vs H Q E h => h.1) fun cd A outer s H vs Q E hr h => ?_
  obtain ⟨hl, m, ch, ds, hR, r, q⟩ := h
  obtain ⟨t, ws⟩ := hb cd A outer s H E hr
  have hle : vs.length ≤ N.length := by
    have := congrArg List.length S.pre
    rw [List.length_take] at this
    omega
  refine ⟨t, ws.pe, ws.sim m ch H _ _ _ (so_start N hle hR r) ?_⟩
  replace q : PostE K CA (wxD E) m ch H [] Q ((u (startD N.length ds) ch).res.calm fun d h => .ok d h) := q
  cases e : u (startD N.length ds) ch with
  | nx ρ' h' => rw [e] at q; exact fun m' σ' H' s S => q m' .non H' s S.hr .non
  | rt d h' => rw [e] at q; exact q
  | bk ρ' h' => rw [e] at q; exact q.elim
  | ct ρ' h' => rw [e] at q; exact q.elim
  | ex ρ' c fs h' => rw [e] at q; exact q.elim
  | no => rw [e] at q; exact q
/-- a def of the module -/
structure Df (P : Program) (w : World) (K : PySem.W.Frag) (mg : Str → Option Value) (base : Heap) (CA : CAs) (nm : Str) (g : Bool) (k : Nat) (ps : List Str) (F : FD) (f : Addr) (fd : FuncData) : Prop where
  G : FnG P w K mg base g k f fd ps (spD K CA ps.length F)
  hm : mg nm = some (.ref f)
  hk : PySem.W.keepIn K (.ref f) = true
/-- the ground of a recursion -/
theorem FnG.none {k : Nat} {f : Addr} {fd : FuncData} {ps : List Str} {l : Nat} : FnG P w K mg base g k f fd ps (spD K CA l fun _ _ => .no) :=
  ⟨fun _ _ _ _ h => by obtain ⟨_, _, _, _, _, _, z⟩ := h; exact z.elim, fun _ _ _ _ _ _ _ _ _ _ _ _ _ _ h => by obtain ⟨_, _, _, _, _, _, z⟩ := h; exact z.elim⟩
theorem Df.none {nm : Str} {k : Nat} {ps : List Str} {F : FD} {f : Addr} {fd : FuncData} {k' : Nat} {F' : FD} (d : Df P w K mg base CA nm g k' ps F' f fd) : Df P w K mg base CA nm g k ps (fun _ _ => .no) f fd := ⟨.none, d.hm, d.hk⟩
end
/-! ### where the arguments come from -/
/-- the i-th positional argument, the i-th keyword's, a default -/
inductive Src where
  | p (i : Nat) | k (i : Nat) | c (d : D)
def pickD (ds zs : List D) : List Src → List D
  | [] => []
  | .p i :: r => ds.getD i .non :: pickD ds zs r
  | .k i :: r => zs.getD i .non :: pickD ds zs r
  | .c d :: r => d :: pickD ds zs r
def pickL (us ws : List Value) : List Src → List Value → List Value
  | [], _ => []
  | .p i :: r, cs => us.getD i .none :: pickL us ws r cs
  | .k i :: r, cs => ws.getD i .none :: pickL us ws r cs
  | .c _ :: r, c :: cs => c :: pickL us ws r cs
  | .c _ :: r, [] => .none :: pickL us ws r []
def consts : List Src → List D
  | [] => []
  | .p _ :: r => consts r
  | .k _ :: r => consts r
  | .c d :: r => d :: consts r
/-- the value stands for the data, whatever happens -/
def Ever (K : PySem.W.Frag) (CA : CAs) (u : Value) (d : D) : Prop := ∃ v, RelV v u ∧ ∀ m h H, Rp K CA m h H v d
/-- how the arguments bind -/
structure KwB (K : PySem.W.Frag) (CA : CAs) (fd : FuncData) (ps : List Str) (n : Nat) (ks : List Str) (src : List Src) : Prop where
  ex : ∃ cs : List Value, Paired (Ever K CA) cs (consts src) ∧ ∀ (s : Shared) (us ws : List Value), K.In s.heap → us.length = n → ws.length = ks.length → BindsTo s fd ⟨us, ks.zip ws⟩ (ps.zip (pickL us ws src cs))
section
variable {K : PySem.W.Frag} {CA : CAs} {m : Mp} {h : CH} {H : Hp}
theorem getP_rel {vs : List V} {us : List Value} {ds : List D} (r : Vals vs us) (rd : RpAll K CA m h H vs ds) (i : Nat) : ∃ v, RelV v (us.getD i .none) ∧ Rp K CA m h H v (ds.getD i .non) := by
  induction r generalizing ds i with
  | nil => cases rd; exact ⟨.non, rfl, .non⟩
  | cons a _ ih =>
    cases rd with
    | cons b rd =>
      cases i with
      | zero => exact ⟨_, a, b⟩
      | succ i => exact ih rd i
theorem pick_rel {vs zs : List V} {us ws : List Value} {ds es : List D} (r : Vals vs us) (rd : RpAll K CA m h H vs ds) (rz : Vals zs ws) (re : RpAll K CA m h H zs es) : ∀ {src : List Src} {cs : List Value}, Paired (Ever K CA) cs (consts src) →
    ∃ xs, Vals xs (pickL us ws src cs) ∧ RpAll K CA m h H xs (pickD ds es src)
  | [], _, _ => ⟨[], .nil, .nil⟩
  | .p i :: src, cs, q => by
    obtain ⟨xs, h1, h2⟩ := pick_rel r rd rz re (src := src) (cs := cs) q
    obtain ⟨v, h3, h4⟩ := getP_rel r rd i
    exact ⟨v :: xs, .cons h3 h1, .cons h4 h2⟩
  | .k i :: src, cs, q => by
    obtain ⟨xs, h1, h2⟩ := pick_rel r rd rz re (src := src) (cs := cs) q
    obtain ⟨v, h3, h4⟩ := getP_rel rz re i
    exact ⟨v :: xs, .cons h3 h1, .cons h4 h2⟩
  | .c d :: src, cs, q => by
    cases q with
    | cons a q =>
      obtain ⟨xs, h1, h2⟩ := pick_rel r rd rz re (src := src) q
      obtain ⟨v, h3, h4⟩ := a
      exact ⟨v :: xs, .cons h3 h1, .cons (h4 m h H) h2⟩
theorem KwB.of {fd : FuncData} {ps : List Str} {n : Nat} {ks : List Str} {src : List Src} (hc : consts src = []) (b : ∀ (us ws : List Value), us.length = n → ws.length = ks.length → bindArgs fd ⟨us, ks.zip ws⟩ = pure (ps.zip (pickL us ws src []))) : KwB K CA fd ps n ks src :=
  ⟨[], by rw [hc]; exact .nil, fun s us ws _ h1 h2 => .of_eq (b us ws h1 h2)⟩
end
/-! ### calls -/
/-- a def's reading, at the arguments picked -/
def dCallN (n l : Nat) (src : List Src) (F : FD) (ts tk : TDs) : TD := fun ρ h => (ts ρ h).bind fun ds h => (tk ρ h).bind fun zs h => if ds.length = n ∧ zs.length = l then F (pickD ds zs src) h else .no
def dCall (n : Nat) (F : FD) (ts : TDs) : TD := fun ρ h => (ts ρ h).bind fun ds h => if ds.length = n then F ds h else .no
def tCallN (K : PySem.W.Frag) (CA : CAs) (W : WX) (n l : Nat) (G : List D → List D → CH → R D) (t tk : TA) : TE := fun σ H Q => t σ H fun vs H1 => tk σ H1 fun zs H2 => vs.length = n ∧ zs.length = l ∧ ∃ (m : Mp) (h : CH) (ds es : List D), HR K CA m h H2 ∧ RpAll K CA m h H2 vs ds ∧ RpAll K CA m h H2 zs es ∧ PostE K CA W m h H2 σ Q (G ds es h)
section
variable {X : Cx} {K : PySem.W.Frag} {CA : CAs} {W : WX} {o e : Expr} {es : List Expr} {kws : List Keyword} {pos apos p : Pos} {ha : TE} {ta : TD} {hs hk : TA} {ts tk : TDs} {x nm : Str} {g : Bool} {k n l c0 : Nat} {ps ks : List Str} {src : List Src} {F : FD} {f : Addr} {fd : FuncData}
theorem run_fnG {sp : Sp} {Ex : L2.St → XK} {pins : List (Addr × Obj)} {σ : L2.St} {H : Hp} {s : Shared} {Q : VK} {args : Args} {us : List Value} {vs : List V} (G : FnG X.prog X.w X.K X.mg X.base g k f fd ps sp) (hG : g = true → X.A.guards = some []) (hr : Room k X.A)
    (hb : us.length = ps.length → BindsTo s fd args (ps.zip us)) (hx : PassesAt (L2.CX X.prog X.w) X σ (Ex σ)) (I : Inv X pins σ H s) (r : Vals vs us) (h : sp vs H Q (Ex σ)) : codeAny (model X.prog X.w) X.A (.call (.ref f) args) (fun r s' => match r with | .ok (.ret u) => EP X pins σ Q u s' | .ok _ => False | .error e => X.xe e s') s := by
  refine codeAny_mono (G.go X.A X.stack s H args us vs Q (Ex σ) hG hr I.env0 (hb (by rw [← r.length]; exact G.ln _ _ _ _ h)) r h) fun r s' hq => ?_
  rcases r with e | fl
  · exact hx pins H s e s' I hq
  · rcases fl with _ | _ | _ | u
    · exact hq.elim
    · exact hq.elim
    · exact hq.elim
    · exact I.after hq
/-- the wish at the slots -/
theorem post_at {m : Mp} {h : CH} {H : Hp} {σ : L2.St} {Q : VK} {r : R D} (t : PostE K CA W m h H σ Q r) : PostE K CA (wxD (L2.WE W σ)) m h H [] Q r := by
  cases r with
  | ok d h' => exact t
  | ex c fs h' => exact t
  | no => exact t
theorem end_call {A : Around} {σ : L2.St} {pins : List (Addr × Obj)} {Q : VK} {u : Value} {args : List Value} {kw : List (Str × Value)} {s : Shared} (h : codeAny (model X.prog X.w) A (.call u ⟨args, kw⟩) (fun r s' => match r with | .ok (.ret u) => EP X pins σ Q u s' | .ok _ => False | .error e => X.xe e s') s) :
    wpAny (model X.prog X.w) A (call u args kw) (EP X pins σ Q) X.xe s := by
  refine wpAny_call (codeAny_mono h fun r s' hq => ?_)
  rcases r with e | fl
  · exact hq
  · rcases fl with _ | _ | _ | u <;> exact hq
theorem run_callN {pins : List (Addr × Obj)} {σ : L2.St} {H : Hp} {s : Shared} {Q : VK} {us ws : List Value} {vs zs : List V} {m : Mp} {h : CH} {ds es : List D} (G : FnG X.prog X.w X.K X.mg X.base g k f fd ps (spD X.K CA ps.length F)) (hG : g = true → X.A.guards = some []) (hr : Room k X.A) (B : KwB X.K CA fd ps n ks src) (tk : Takes X W)
    (I : Inv X pins σ H s) (r : Vals vs us) (rz : Vals zs ws) (l1 : vs.length = n) (l2 : zs.length = ks.length) (hR : HR X.K CA m h H) (rd : RpAll X.K CA m h H vs ds) (re : RpAll X.K CA m h H zs es) (hl : src.length = ps.length) (q : PostE X.K CA W m h H σ Q (F (pickD ds es src) h)) :
    wpAny (model X.prog X.w) X.A (call (.ref f) us (ks.zip ws)) (EP X pins σ Q) X.xe s := by
  obtain ⟨cs, hc, hb⟩ := B.ex
  obtain ⟨xs, h1, h2⟩ := pick_rel r rd rz re hc
  have hlen : ∀ {src : List Src}, (pickD ds es src).length = src.length := fun {src} => by
    induction src with
    | nil => rfl
    | cons a src ih => cases a <;> simp [pickD, ih]
  exact end_call (run_fnG G hG hr (fun _ => hb s us ws I.kIn (r.length.symm.trans l1) (rz.length.symm.trans l2)) (passAt tk σ) I h1 ⟨by rw [h2.length, hlen]; exact hl, m, h, _, hR, h2, post_at q⟩)
theorem sim_callN (s : SimA K CA W hs ts) (s' : SimA K CA W hk tk) : SimE K CA W (tCallN K CA W n l (fun ds es => F (pickD ds es src)) hs hk) (dCallN n l src F ts tk) := fun m h H σ ρ Q' S t =>
  s m h H σ ρ _ S (t.bind fun ds h1 m1 vs H1 s1 S1 r1 t1 => s' m1 h1 H1 σ ρ _ (S.move s1 S1) (t1.bind fun es h2 m2 zs H2 s2 S2 r2 t2 => by
    obtain ⟨⟨c1, c2⟩, t2⟩ := post_ite t2
    exact ⟨r1.length.trans c1, r2.length.trans c2, m2, h2, ds, es, S2, r1.move s2, r2, t2⟩))
theorem sim_call (s : SimA K CA W hs ts) : SimE K CA W (tCallN K CA W n 0 (fun ds _ => F ds) hs L2.tNil) (dCall n F ts) := fun m h H σ ρ Q' S t =>
  s m h H σ ρ _ S (t.bind fun ds h1 m1 vs H1 s1 S1 r1 t1 => by
    obtain ⟨c1, t1⟩ := post_ite t1
    exact ⟨r1.length.trans c1, rfl, m1, h1, ds, [], S1, r1, .nil, t1⟩)
/-- named arguments -/
structure WK (X : Cx) (K : PySem.W.Frag) (CA : CAs) (W : WX) (kws : List Keyword) (hs : TA) (ts : TDs) : Prop where
  pe : PK X kws hs
  sim : SimA K CA W hs ts
theorem wk_nil : WK X K CA W [] L2.tNil dNil := ⟨pk_nil, fun m h H σ ρ Q' S t => t.here S.hr .nil⟩
theorem wk_cons {nm : Option Str} {kpos : Pos} (h : WE X K CA W e ha ta) (h' : WK X K CA W kws hs ts) : WK X K CA W (⟨nm, e, kpos⟩ :: kws) (L2.tCons ha hs) (dCons ta ts) :=
  ⟨pk_cons h.pe h'.pe, sim_cons h.sim h'.sim⟩
/-- the positional ones alone, as they come -/
def srcP : Nat → Nat → List Src
  | _, 0 => []
  | i, n + 1 => .p i :: srcP (i + 1) n
/-- f(e, ..) -/
theorem we_call (D : Df X.prog X.w X.K X.mg X.base CA x g k ps F f fd) (hG : g = true → X.A.guards = some []) (hr : Room k X.A) (tk' : Takes X W) (h : WA X K CA W (e :: es) hs ts) (B : KwB K CA fd ps n [] src) (hl : src.length = ps.length := by rfl) (hg : Gl X x := by rfl) (hK : X.K = K := by rfl)
    (hdb : (x == ("__debug__" : Str)) = false := by decide) (he : starEach (e :: es) X.env = (false, eval e X.env) :: starEach es X.env := by rfl) (hpl : (backTo pos (starEach es X.env)).any (·.1) = false := by rfl) :
    WE X K CA W (.Call (.Name x p) (e :: es) [] pos) (tCallN K CA W n 0 (fun ds es => F (pickD ds es src)) hs L2.tNil) (dCallN n 0 src F ts dNil) := by
  subst hK
  refine ⟨⟨fun pins s σ H Q I hq => wpAny_Call_Name_kw (ld_glob I hg D.hm ?_ hdb)⟩, sim_callN h.sim fun m h H σ ρ Q' S t => t.here S.hr .nil⟩
  refine PySem.W.callWith_K (h₀ := X.base) I.ok.mod.kin D.hk (thn (h.pe.run pos pins s σ H _ I hq) fun us s1 ⟨vs, H1, I1, r, l1, l2, m, h, ds, es, hR, rd, re, q⟩ => ⟨I1.kIn, ?_⟩) he hpl
  exact run_callN (ws := []) D.G hG hr B tk' I1 r .nil l1 l2 hR rd re hl q
/-- f() -/
theorem we_call0 (D : Df X.prog X.w X.K X.mg X.base CA x g k ps F f fd) (hG : g = true → X.A.guards = some []) (hr : Room k X.A) (tk' : Takes X W) (B : KwB K CA fd ps 0 [] src) (hl : src.length = ps.length := by rfl) (hg : Gl X x := by rfl) (hK : X.K = K := by rfl)
    (hdb : (x == ("__debug__" : Str)) = false := by decide) :
    WE X K CA W (.Call (.Name x p) [] [] pos) (tCallN K CA W 0 0 (fun ds es => F (pickD ds es src)) L2.tNil L2.tNil) (dCallN 0 0 src F dNil dNil) := by
  subst hK
  refine ⟨⟨fun pins s σ H Q I hq => wpAny_Call_Name_kw (ld_glob I hg D.hm ?_ hdb)⟩, sim_callN (fun m h H σ ρ Q' S t => t.here S.hr .nil) fun m h H σ ρ Q' S t => t.here S.hr .nil⟩
  obtain ⟨l1, l2, m, h, ds, es, hR, rd, re, q⟩ := hq
  exact PySem.W.callWith_K0 I.kIn D.hk (run_callN (us := []) (ws := []) (vs := []) (zs := []) D.G hG hr B tk' I .nil .nil l1 l2 hR rd re hl q)
/-- f(k = e, ..) -/
theorem we_callK0 (D : Df X.prog X.w X.K X.mg X.base CA x g k ps F f fd) (hG : g = true → X.A.guards = some []) (hr : Room k X.A) (tk' : Takes X W) (h' : WK X K CA W kws hk tk) (B : KwB K CA fd ps 0 ks src) (hl : src.length = ps.length := by rfl) (hg : Gl X x := by rfl) (hK : X.K = K := by rfl)
    (hall : (backToKw pos (keywordEach kws X.env)).all (·.1.isSome) = true := by rfl) (hks : (backToKw pos (keywordEach kws X.env)).filterMap (·.1) = ks := by rfl) (hdb : (x == ("__debug__" : Str)) = false := by decide)
    (hpl : ((backTo pos (starEach [] X.env)).any (·.1) || (backToKw pos (keywordEach kws X.env)).any (·.1.isNone)) = false := by rfl) :
    WE X K CA W (.Call (.Name x p) [] kws pos) (tCallN K CA W 0 ks.length (fun ds es => F (pickD ds es src)) L2.tNil hk) (dCallN 0 ks.length src F dNil tk) := by
  subst hK
  refine ⟨⟨fun pins s σ H Q I hq => wpAny_Call_Name_kw (ld_glob I hg D.hm ?_ hdb)⟩, sim_callN (fun m h H σ ρ Q' S t => t.here S.hr .nil) h'.sim⟩
  refine PySem.W.callWith_KW0 (h₀ := X.base) I.ok.mod.kin D.hk hall (thn (h'.pe.run pos pins s σ H _ I hq) fun ws s1 ⟨zs, H1, I1, rz, l1, l2, m, h, ds, es, hR, rd, re, q⟩ => ⟨I1.kIn, ?_⟩) hpl
  rw [hks]
  exact run_callN (us := []) (vs := []) D.G hG hr B tk' I1 .nil rz l1 l2 hR rd re hl q
/-- f(e, .., k = e, ..) -/
theorem we_callK (D : Df X.prog X.w X.K X.mg X.base CA x g k ps F f fd) (hG : g = true → X.A.guards = some []) (hr : Room k X.A) (tk' : Takes X W) (h : WA X K CA W (e :: es) hs ts) (h' : WK X K CA W kws hk tk) (B : KwB K CA fd ps n ks src) (hl : src.length = ps.length := by rfl) (hg : Gl X x := by rfl) (hK : X.K = K := by rfl)
    (hall : (backToKw pos (keywordEach kws X.env)).all (·.1.isSome) = true := by rfl) (hks : (backToKw pos (keywordEach kws X.env)).filterMap (·.1) = ks := by rfl) (hdb : (x == ("__debug__" : Str)) = false := by decide)
    (he : starEach (e :: es) X.env = (false, eval e X.env) :: starEach es X.env := by rfl) (hpl : ((backTo pos (starEach (e :: es) X.env)).any (·.1) || (backToKw pos (keywordEach kws X.env)).any (·.1.isNone)) = false := by rfl) :
    WE X K CA W (.Call (.Name x p) (e :: es) kws pos) (tCallN K CA W n ks.length (fun ds es => F (pickD ds es src)) hs hk) (dCallN n ks.length src F ts tk) := by
  subst hK
  refine ⟨⟨fun pins s σ H Q I hq => wpAny_Call_Name_kw (ld_glob I hg D.hm ?_ hdb)⟩, sim_callN h.sim h'.sim⟩
  refine PySem.W.callWith_KW (h₀ := X.base) I.ok.mod.kin D.hk hall (thn (h.pe.run pos pins s σ H _ I hq) fun us s1 ⟨vs, H1, I1, r, q1⟩ => thn (h'.pe.run pos pins s1 σ H1 _ I1 q1) fun ws s2 ⟨zs, H2, I2, rz, l1, l2, m, h, ds, es, hR, rd, re, q⟩ => ⟨I2.kIn, ?_⟩) hpl he
  rw [hks]
  exact run_callN D.G hG hr B tk' I2 r rz l1 l2 hR rd re hl q
end
/-! ### methods -/
/-- nm is a method of the class c0 -/
structure Mtd (P : Program) (w : World) (K : PySem.W.Frag) (mg : Str → Option Value) (base : Heap) (CA : CAs) (c0 : Nat) (nm : Str) (g : Bool) (k : Nat) (ps : List Str) (F : FD) (f : Addr) (fd : FuncData) : Prop where
  G : FnG P w K mg base g k f fd ps (spD K CA ps.length F)
  cl : Cls K (CA c0)
  mt : Meth K (CA c0) nm f
def dMethN (c0 : Nat) (nm : Str) (n l : Nat) (src : List Src) (F : FD) (ta : TD) (ts tk : TDs) : TD := fun ρ h => (ta ρ h).bind fun d h => match objOf h d with
  | some (c, fs) => if c = c0 ∧ (fs.lookup nm).isNone = true then (ts ρ h).bind fun ds h => (tk ρ h).bind fun zs h => if ds.length + 1 = n ∧ zs.length = l then F (pickD (d :: ds) zs src) h else .no else .no
  | none => .no
def tMethN (K : PySem.W.Frag) (CA : CAs) (W : WX) (c0 : Nat) (nm : Str) (n l : Nat) (G : List D → List D → CH → R D) (ta : TE) (t tk : TA) : TE := fun σ H Q => ta σ H fun x H1 => ∃ a dx fs, x = .ref a ∧ H1 a = some (.ins (CA c0) dx fs) ∧ fs.lookup nm = none ∧
  t σ H1 fun vs H2 => tk σ H2 fun zs H3 => vs.length + 1 = n ∧ zs.length = l ∧ ∃ (m : Mp) (h : CH) (ds es : List D), HR K CA m h H3 ∧ RpAll K CA m h H3 (.ref a :: vs) ds ∧ RpAll K CA m h H3 zs es ∧ PostE K CA W m h H3 σ Q (G ds es h)
section
variable {X : Cx} {K : PySem.W.Frag} {CA : CAs} {W : WX} {o e : Expr} {es : List Expr} {kws : List Keyword} {pos apos p : Pos} {ha : TE} {ta : TD} {hs hk : TA} {ts tk : TDs} {x nm : Str} {g : Bool} {k n l c0 : Nat} {ps ks : List Str} {src : List Src} {F : FD} {f : Addr} {fd : FuncData}
theorem sim_methN (s0 : SimE K CA W ha ta) (s : SimA K CA W hs ts) (s' : SimA K CA W hk tk) : SimE K CA W (tMethN K CA W c0 nm n l (fun ds es => F (pickD ds es src)) ha hs hk) (dMethN c0 nm n l src F ta ts tk) := fun m h H σ ρ Q' S t =>
  s0 m h H σ ρ _ S (t.bind fun d h1 m1 v H1 s1 S1 r1 t1 => by
    split at t1
    · rename_i c fs eo
      obtain ⟨⟨ec, hl⟩, t3⟩ := post_ite t1
      subst ec
      obtain ⟨a, dx, hfs, rfl, q1, q2, q3⟩ := rp_obj S1 r1 eo
      refine ⟨a, dx, hfs, rfl, q1, look_none q2 (Option.isNone_iff_eq_none.mp hl), s m1 h1 H1 σ ρ _ (S.move s1 S1) (t3.bind fun ds h2 m2 vs H2 s2 S2 r2 t2 => s' m2 h2 H2 σ ρ _ ((S.move s1 S1).move s2 S2) (t2.bind fun es h3 m3 zs H3 s3 S3 r3 t4 => ?_))⟩
      obtain ⟨⟨c1, c2⟩, t4⟩ := post_ite t4
      exact ⟨by rw [r2.length]; exact c1, r3.length.trans c2, m3, h3, d :: ds, es, S3, .cons ((r1.move s2).move s3) (r2.move s3), r3, t4⟩
    · exact t1.elim)
abbrev MethAt (X : Cx) (o : Expr) (nm : Str) (apos pos : Pos) (es : List Expr) (kws : List Keyword) (pl : Sem Bool) : Prop := eval (.Call (.Attribute o nm apos) es kws pos) X.env = (do
      let ov ← eval o X.env
      standAt apos.atName
      let (f, first) ← holding [ov] (getMethod ov nm pl)
      callWith pos f first (backTo pos (starEach es X.env)) (backToKw pos (keywordEach kws X.env)))
/-- o.m(e, ..) -/
theorem we_meth {pl : Sem Bool} (M : Mtd X.prog X.w X.K X.mg X.base CA c0 nm g k ps F f fd) (hG : g = true → X.A.guards = some []) (hr : Room k X.A) (tk' : Takes X W) (h0 : WE X K CA W o ha ta) (h : WA X K CA W (e :: es) hs ts) (B : KwB K CA fd ps n [] src) (hl : src.length = ps.length := by rfl) (hK : X.K = K := by rfl)
    (he : starEach (e :: es) X.env = (false, eval e X.env) :: starEach es X.env := by rfl) (hpl : (backTo pos (starEach es X.env)).any (·.1) = false := by rfl) (ht : MethAt X o nm apos pos (e :: es) [] pl := by rfl) :
    WE X K CA W (.Call (.Attribute o nm apos) (e :: es) [] pos) (tMethN K CA W c0 nm n 0 (fun ds es => F (pickD ds es src)) ha hs L2.tNil) (dMethN c0 nm n 0 src F ta ts dNil) := by
  subst hK
  refine ⟨⟨fun pins s σ H Q I hq => PySem.W.methodCall_KW (pl := pl) (thn (h0.pe.run pins s σ H _ I hq) fun u s1 ⟨x, H1, I1, rx, a, dx, fs, ex, ea, ln, q⟩ => ?_) ht⟩, sim_methN h0.sim h.sim fun m h H σ ρ Q' S t => t.here S.hr .nil⟩
  subst ex
  obtain rfl : u = Value.ref a := rx
  refine getmeth_ok I1 ea M.cl M.mt ln ?_
  refine PySem.W.callWith_K (first := [.ref a]) (h₀ := X.base) I.ok.mod.kin M.mt.kp (thn (h.pe.run pos pins s1 σ H1 _ I1 q) fun us s2 ⟨vs, H2, I2, r, l1, l2, m, h, ds, es, hR, rd, re, q2⟩ => ⟨I2.kIn, ?_⟩) he hpl
  exact run_callN (us := .ref a :: us) (vs := .ref a :: vs) (ws := []) M.G hG hr B tk' I2 (.cons rfl r) .nil l1 l2 hR rd re hl q2
/-- o.m() -/
theorem we_meth0 {pl : Sem Bool} (M : Mtd X.prog X.w X.K X.mg X.base CA c0 nm g k ps F f fd) (hG : g = true → X.A.guards = some []) (hr : Room k X.A) (tk' : Takes X W) (h0 : WE X K CA W o ha ta) (B : KwB K CA fd ps 1 [] src) (hl : src.length = ps.length := by rfl) (hK : X.K = K := by rfl)
    (ht : MethAt X o nm apos pos [] [] pl := by rfl) :
    WE X K CA W (.Call (.Attribute o nm apos) [] [] pos) (tMethN K CA W c0 nm 1 0 (fun ds es => F (pickD ds es src)) ha L2.tNil L2.tNil) (dMethN c0 nm 1 0 src F ta dNil dNil) := by
  subst hK
  refine ⟨⟨fun pins s σ H Q I hq => PySem.W.methodCall_KW (pl := pl) (thn (h0.pe.run pins s σ H _ I hq) fun u s1 ⟨x, H1, I1, rx, a, dx, fs, ex, ea, ln, l1, l2, m, h, ds, es, hR, rd, re, q⟩ => ?_) ht⟩, sim_methN h0.sim (fun m h H σ ρ Q' S t => t.here S.hr .nil) fun m h H σ ρ Q' S t => t.here S.hr .nil⟩
  subst ex
  obtain rfl : u = Value.ref a := rx
  refine getmeth_ok I1 ea M.cl M.mt ln ?_
  exact PySem.W.callWith_K0 (first := [.ref a]) I1.kIn M.mt.kp (run_callN (us := [.ref a]) (vs := [.ref a]) (ws := []) (zs := []) M.G hG hr B tk' I1 (.cons rfl .nil) .nil l1 l2 hR rd re hl q)
/-- o.m(k = e, ..) -/
theorem we_methK0 {pl : Sem Bool} (M : Mtd X.prog X.w X.K X.mg X.base CA c0 nm g k ps F f fd) (hG : g = true → X.A.guards = some []) (hr : Room k X.A) (tk' : Takes X W) (h0 : WE X K CA W o ha ta) (h' : WK X K CA W kws hk tk) (B : KwB K CA fd ps 1 ks src) (hl : src.length = ps.length := by rfl) (hK : X.K = K := by rfl)
    (hall : (backToKw pos (keywordEach kws X.env)).all (·.1.isSome) = true := by rfl) (hks : (backToKw pos (keywordEach kws X.env)).filterMap (·.1) = ks := by rfl)
    (hpl : ((backTo pos (starEach [] X.env)).any (·.1) || (backToKw pos (keywordEach kws X.env)).any (·.1.isNone)) = false := by rfl) (ht : MethAt X o nm apos pos [] kws pl := by rfl) :
    WE X K CA W (.Call (.Attribute o nm apos) [] kws pos) (tMethN K CA W c0 nm 1 ks.length (fun ds es => F (pickD ds es src)) ha L2.tNil hk) (dMethN c0 nm 1 ks.length src F ta dNil tk) := by
  subst hK
  refine ⟨⟨fun pins s σ H Q I hq => PySem.W.methodCall_KW (pl := pl) (thn (h0.pe.run pins s σ H _ I hq) fun u s1 ⟨x, H1, I1, rx, a, dx, fs, ex, ea, ln, q⟩ => ?_) ht⟩, sim_methN h0.sim (fun m h H σ ρ Q' S t => t.here S.hr .nil) h'.sim⟩
  subst ex
  obtain rfl : u = Value.ref a := rx
  refine getmeth_ok I1 ea M.cl M.mt ln ?_
  refine PySem.W.callWith_KW0 (first := [.ref a]) (h₀ := X.base) I.ok.mod.kin M.mt.kp hall (thn (h'.pe.run pos pins s1 σ H1 _ I1 q) fun ws s2 ⟨zs, H2, I2, rz, l1, l2, m, h, ds, es, hR, rd, re, q2⟩ => ⟨I2.kIn, ?_⟩) hpl
  rw [hks]
  exact run_callN (us := [.ref a]) (vs := [.ref a]) M.G hG hr B tk' I2 (.cons rfl .nil) rz l1 l2 hR rd re hl q2
/-- o.m(e, .., k = e, ..) -/
theorem we_methK {pl : Sem Bool} (M : Mtd X.prog X.w X.K X.mg X.base CA c0 nm g k ps F f fd) (hG : g = true → X.A.guards = some []) (hr : Room k X.A) (tk' : Takes X W) (h0 : WE X K CA W o ha ta) (h : WA X K CA W (e :: es) hs ts) (h' : WK X K CA W kws hk tk) (B : KwB K CA fd ps n ks src) (hl : src.length = ps.length := by rfl) (hK : X.K = K := by rfl)
    (hall : (backToKw pos (keywordEach kws X.env)).all (·.1.isSome) = true := by rfl) (hks : (backToKw pos (keywordEach kws X.env)).filterMap (·.1) = ks := by rfl)
    (he : starEach (e :: es) X.env = (false, eval e X.env) :: starEach es X.env := by rfl) (hpl : ((backTo pos (starEach (e :: es) X.env)).any (·.1) || (backToKw pos (keywordEach kws X.env)).any (·.1.isNone)) = false := by rfl) (ht : MethAt X o nm apos pos (e :: es) kws pl := by rfl) :
    WE X K CA W (.Call (.Attribute o nm apos) (e :: es) kws pos) (tMethN K CA W c0 nm n ks.length (fun ds es => F (pickD ds es src)) ha hs hk) (dMethN c0 nm n ks.length src F ta ts tk) := by
  subst hK
  refine ⟨⟨fun pins s σ H Q I hq => PySem.W.methodCall_KW (pl := pl) (thn (h0.pe.run pins s σ H _ I hq) fun u s1 ⟨x, H1, I1, rx, a, dx, fs, ex, ea, ln, q⟩ => ?_) ht⟩, sim_methN h0.sim h.sim h'.sim⟩
  subst ex
  obtain rfl : u = Value.ref a := rx
  refine getmeth_ok I1 ea M.cl M.mt ln ?_
  refine PySem.W.callWith_KW (first := [.ref a]) (h₀ := X.base) I.ok.mod.kin M.mt.kp hall (thn (h.pe.run pos pins s1 σ H1 _ I1 q) fun us s2 ⟨vs, H2, I2, r, q1⟩ => thn (h'.pe.run pos pins s2 σ H2 _ I2 q1) fun ws s3 ⟨zs, H3, I3, rz, l1, l2, m, h, ds, es, hR, rd, re, q2⟩ => ⟨I3.kIn, ?_⟩) hpl he
  rw [hks]
  exact run_callN (us := .ref a :: us) (vs := .ref a :: vs) M.G hG hr B tk' I3 (.cons rfl r) rz l1 l2 hR rd re hl q2
end
/-! ### properties -/
def dProp (c0 : Nat) (F : FD) (ta : TD) : TD := fun ρ h => (ta ρ h).bind fun d h => match objOf h d with
  | some (c, _) => if c = c0 then noxF F [d] h else .no
  | none => .no
section
variable {X : Cx} {K : PySem.W.Frag} {CA : CAs} {W : WX} {o e : Expr} {pos : Pos} {ha : TE} {ta : TD} {c0 : Nat} {F : FD}
theorem we_prop (x : WE X K CA W e ha ta) (hp : PE X e ha → PE X o (tProp (CA c0) (spD K CA 1 (noxF F)) [] L2.E0 ha)) : WE X K CA W o (tProp (CA c0) (spD K CA 1 (noxF F)) [] L2.E0 ha) (dProp c0 F ta) :=
  ⟨hp x.pe, fun m h H σ ρ Q' S t => x.sim m h H σ ρ _ S (t.bind fun d h1 m1 v H1 s1 S1 r1 t1 => by
    split at t1
    · rename_i c fs eo
      obtain ⟨ec, t3⟩ := post_ite t1
      subst ec
      clear t1
      obtain ⟨a, dx, hfs, rfl, q1, q2, q3⟩ := rp_obj S1 r1 eo
      refine ⟨a, dx, hfs, rfl, q1, rfl, m1, h1, [d], S1, .cons r1 .nil, ?_⟩
      have t1 : PostE K CA W m1 h1 H1 σ Q' ((F [d] h1).calm fun d h => .ok d h) := t3
      show PostE K CA (wxD L2.E0) m1 h1 H1 [] Q' ((F [d] h1).calm fun d h => .ok d h)
      cases ef : F [d] h1 with
      | ok d' h' => rw [ef] at t1; exact t1
      | ex c fs h' => rw [ef] at t1; exact t1.elim
      | no => rw [ef] at t1; exact t1
    · exact t1.elim)⟩
end
/-- nm is a property of the class c0 -/
structure Prd (P : Program) (w : World) (K : PySem.W.Frag) (mg : Str → Option Value) (base : Heap) (CA : CAs) (c0 : Nat) (nm : Str) (k : Nat) (ps : List Str) (F : FD) : Prop where
  ex : ∃ (p g : Addr) (fd : FuncData), FnOk P w K mg base L2.CX0 k g fd ps (spD K CA 1 (noxF F)) ∧ PropOf K (CA c0) nm p g ∧ Binds K fd ps []
  cl : Cls K (CA c0)
section
variable {X : Cx} {K : PySem.W.Frag} {CA : CAs} {W : WX} {e : Expr} {pos : Pos} {ha : TE} {ta : TD} {c0 k : Nat} {F : FD} {nm : Str} {ps : List Str}
/-- e.nm, a property -/
theorem we_pr (M : Prd X.prog X.w X.K X.mg X.base CA c0 nm k ps F) (hr : Room (k + 1) X.A) (x : WE X K CA W e ha ta) (hK : X.K = K := by rfl) (hab : attributeBase e nm X.env (eval e X.env) = eval e X.env := by rfl) :
    WE X K CA W (.Attribute e nm pos) (tProp (CA c0) (spD K CA 1 (noxF F)) [] L2.E0 ha) (dProp c0 F ta) := by
  subst hK
  obtain ⟨p, g, fd, G, hp, hb⟩ := M.ex
  exact we_prop x fun a => pe_prop a M.cl hp G hr hb .nil pass0 hab
end
/-! ### makes -/
/-- the class c0, called nm, is made by its __init__ -/
structure Mkd (P : Program) (w : World) (K : PySem.W.Frag) (mg : Str → Option Value) (base : Heap) (CA : CAs) (c0 : Nat) (nm : Str) (k : Nat) (ps : List Str) (F : FD) (f : Addr) (fd : FuncData) : Prop where
  G : FnG P w K mg base false k f fd ps (spD K CA ps.length F)
  hm : mg nm = some (.ref (CA c0))
  mkd : Mk K (CA c0) f
/-- a new object: kept named, or given free (fr) -/
def dMakeN (c0 : Nat) (fr : Bool) (n l : Nat) (src : List Src) (F : FD) (ts tk : TDs) : TD := fun ρ h => (ts ρ h).bind fun ds h => (tk ρ h).bind fun zs h => if ds.length + 1 = n ∧ zs.length = l then (F (pickD (.ref h.nx :: ds) zs src) (h.new (.obj c0 []))).bind fun r h2 => match r with
  | .non => if fr = true then fz (.ref h.nx) h2 else .ok (.ref h.nx) h2
  | _ => .no
  else .no
def tMakeN (K : PySem.W.Frag) (CA : CAs) (W : WX) (c0 : Nat) (n l : Nat) (G : List D → List D → CH → R D) (t tk : TA) : TE := fun σ H Q => t σ H fun vs H1 => tk σ H1 fun zs H2 => vs.length + 1 = n ∧ zs.length = l ∧ ∀ a da, H2 a = none → H2 da = none → da ≠ a →
  ∃ (m : Mp) (h : CH) (ds es : List D), HR K CA m h (upd (upd H2 da (.own a)) a (.ins (CA c0) da [])) ∧ RpAll K CA m h (upd (upd H2 da (.own a)) a (.ins (CA c0) da [])) (.ref a :: vs) ds ∧ RpAll K CA m h (upd (upd H2 da (.own a)) a (.ins (CA c0) da [])) zs es ∧
    PostE K CA W m h (upd (upd H2 da (.own a)) a (.ins (CA c0) da [])) σ (fun v H3 => v = .non ∧ Q (.ref a) H3) (G ds es h)
section
variable {X : Cx} {K : PySem.W.Frag} {CA : CAs} {W : WX} {e : Expr} {es : List Expr} {kws : List Keyword} {pos p : Pos} {hs hk : TA} {ts tk : TDs} {x : Str} {k n l c0 : Nat} {ps ks : List Str} {src : List Src} {F : FD} {f : Addr} {fd : FuncData} {fr : Bool}
theorem sim_makeN (s : SimA K CA W hs ts) (s' : SimA K CA W hk tk) : SimE K CA W (tMakeN K CA W c0 n l (fun ds es => F (pickD ds es src)) hs hk) (dMakeN c0 fr n l src F ts tk) := fun m h H σ ρ Q' S t =>
  s m h H σ ρ _ S (t.bind fun ds h1 m1 vs H1 s1 S1 r1 t1 => s' m1 h1 H1 σ ρ _ (S.move s1 S1) (t1.bind fun es h2 m2 zs H2 s2 S2 r2 t2 => by
    obtain ⟨⟨c1, c2⟩, t2⟩ := post_ite t2
    refine ⟨by rw [r1.length]; exact c1, r2.length.trans c2, fun a da na nd ne => ?_⟩
    have gr : ∀ b u, H2 b = some u → (upd (upd H2 da (.own a)) a (.ins (CA c0) da [])) b = some u := fun b u e => by
      rw [upd_ne (ne_of_none e na), upd_ne (ne_of_none e nd)]; exact e
    have sN := stp_new (o := .obj c0 []) S2 na gr
    have SN := S2.new (o := .obj c0 []) na gr (.obj upd_same rfl .nil)
    have ra := Rp.ref (K := K) (CA := CA) (m := mpNew m2 h2 a) (h := h2.new (.obj c0 [])) (H := upd (upd H2 da (.own a)) a (.ins (CA c0) da [])) (k := h2.nx) (Nat.lt_succ_self _)
    rw [mpNew_nx] at ra
    refine ⟨mpNew m2 h2 a, h2.new (.obj c0 []), .ref h2.nx :: ds, es, SN, .cons ra ((r1.move s2).move sN), r2.move sN, ?_⟩
    show PostE K CA W _ _ _ σ _ (F (pickD (.ref h2.nx :: ds) es src) (h2.new (.obj c0 [])))
    cases ef : F (pickD (.ref h2.nx :: ds) es src) (h2.new (.obj c0 [])) with
    | no => rw [ef] at t2; exact t2.elim
    | ex c fs h' => rw [ef] at t2; exact fun m' cls dd H' s' S' xr => t2 m' cls dd H' (sN.trans s') S' xr
    | ok d h' =>
      rw [ef] at t2
      intro m' v H' s' S' rv
      have mk : m' h2.nx = a := by
        have := s'.mp h2.nx (Nat.lt_succ_self _)
        rw [mpNew_nx] at this
        exact this
      have rk : Rp K CA m' h' H' (.ref a) (.ref h2.nx) := by
        rw [← mk]
        exact .ref (Nat.lt_of_lt_of_le (Nat.lt_succ_self _) s'.nx)
      cases d with
      | non =>
        cases rv
        refine ⟨rfl, ?_⟩
        have t3 : PostE K CA W m2 h2 H2 σ Q' (if fr = true then fz (.ref h2.nx) h' else .ok (.ref h2.nx) h') := t2
        cases fr with
        | true => exact fz_post S' rk (t3.from (sN.trans s'))
        | false => exact t3 m' _ H' (sN.trans s') S' rk
      | _ => exact t2.elim))
theorem run_makeN' {pins : List (Addr × Obj)} {σ : L2.St} {H : Hp} {s : Shared} {Q : VK} {us ws : List Value} {vs zs : List V} (D : Mkd X.prog X.w X.K X.mg X.base CA c0 x k ps F f fd) (hr : Room (k + 1) X.A) (B : KwB X.K CA fd ps n ks src) (tk' : Takes X W) (hl : src.length = ps.length)
    (I : Inv X pins σ H s) (r : Vals vs us) (rz : Vals zs ws) (l1 : vs.length + 1 = n) (l2 : zs.length = ks.length)
    (q : ∀ a da, H a = none → H da = none → da ≠ a → ∃ (m : Mp) (h : CH) (ds es : List CM.D), HR X.K CA m h (upd (upd H da (.own a)) a (.ins (CA c0) da [])) ∧ RpAll X.K CA m h (upd (upd H da (.own a)) a (.ins (CA c0) da [])) (.ref a :: vs) ds ∧ RpAll X.K CA m h (upd (upd H da (.own a)) a (.ins (CA c0) da [])) zs es ∧
      PostE X.K CA W m h (upd (upd H da (.own a)) a (.ins (CA c0) da [])) σ (fun v H3 => v = .non ∧ Q (.ref a) H3) (F (pickD ds es src) h)) :
    wpAny (model X.prog X.w) X.A (call (.ref (CA c0)) us (ks.zip ws)) (EP X pins σ Q) X.xe s := by
  obtain ⟨m, h, ds, es, hR, rd, re, q⟩ := q (s.heap.objs.size + 1) s.heap.objs.size (I.hok.fresh (Nat.le_succ _)) (I.hok.fresh (Nat.le_refl _)) (Nat.ne_of_lt (Nat.lt_succ_self _))
  have I2 := Inv.made (C := CA c0) I
  have r1 : Vals (V.ref (s.heap.objs.size + 1) :: vs) (Value.ref (s.heap.objs.size + 1) :: us) := .cons rfl r
  obtain ⟨cs, hc, hb⟩ := B.ex
  obtain ⟨xs, h1, h2⟩ := pick_rel r1 rd rz re hc
  have hlen : ∀ {src : List Src}, (pickD ds es src).length = src.length := fun {src} => by
    induction src with
    | nil => rfl
    | cons a src ih => cases a <;> simp [pickD, ih]
  have n1 : (Value.ref (s.heap.objs.size + 1) :: us).length = n := by rw [← r1.length]; exact l1
  refine wpAny_call (make_map (f := f) I.kIn D.mkd.makes D.mkd.init (beq_iff_eq.mp D.mkd.fn) (codeAny_mono (D.G.go _ X.stack _ _ ⟨Value.ref (s.heap.objs.size + 1) :: us, ks.zip ws⟩ _ xs _ (L2.WE W σ) (fun z => nomatch z) (hr.make (CA c0) us (ks.zip ws))
    (I2.env0.make (CA c0) us (ks.zip ws)) (hb _ (Value.ref (s.heap.objs.size + 1) :: us) ws I2.kIn n1 (rz.length.symm.trans l2)) h1 ⟨by rw [h2.length, hlen]; exact hl, m, h, _, hR, h2, post_at q⟩) fun r s' hq' => ?_))
  rcases r with er | fl
  · exact passAt tk' σ pins _ _ er s' I2 hq'
  · rcases fl with _ | _ | _ | u
    · exact False.elim hq'
    · exact False.elim hq'
    · exact False.elim hq'
    · obtain ⟨v, H', I3, rv, ev, q3⟩ := I2.after hq'
      subst ev
      exact ⟨rv, ⟨V.ref (s.heap.objs.size + 1), H', I3, rfl, q3⟩⟩
/-- C(e, ..) -/
theorem we_make (fr : Bool) (D : Mkd X.prog X.w X.K X.mg X.base CA c0 x k ps F f fd) (hr : Room (k + 1) X.A) (tk' : Takes X W) (h : WA X K CA W (e :: es) hs ts) (B : KwB K CA fd ps n [] src) (hl : src.length = ps.length := by rfl) (hg : Gl X x := by rfl) (hK : X.K = K := by rfl)
    (hdb : (x == ("__debug__" : Str)) = false := by decide) (he : starEach (e :: es) X.env = (false, eval e X.env) :: starEach es X.env := by rfl) (hpl : (backTo pos (starEach es X.env)).any (·.1) = false := by rfl) :
    WE X K CA W (.Call (.Name x p) (e :: es) [] pos) (tMakeN K CA W c0 n 0 (fun ds es => F (pickD ds es src)) hs L2.tNil) (dMakeN c0 fr n 0 src F ts dNil) := by
  subst hK
  refine ⟨⟨fun pins s σ H Q I hq => wpAny_Call_Name_kw (ld_glob I hg D.hm ?_ hdb)⟩, sim_makeN h.sim fun m h H σ ρ Q' S t => t.here S.hr .nil⟩
  refine PySem.W.callWith_K (h₀ := X.base) I.ok.mod.kin D.mkd.kp (thn (h.pe.run pos pins s σ H _ I hq) fun us s1 ⟨vs, H1, I1, r, l1, l2, q⟩ => ⟨I1.kIn, ?_⟩) he hpl
  exact run_makeN' (ws := []) D hr B tk' hl I1 r .nil l1 l2 q
/-- C() -/
theorem we_make0 (fr : Bool) (D : Mkd X.prog X.w X.K X.mg X.base CA c0 x k ps F f fd) (hr : Room (k + 1) X.A) (tk' : Takes X W) (B : KwB K CA fd ps 1 [] src) (hl : src.length = ps.length := by rfl) (hg : Gl X x := by rfl) (hK : X.K = K := by rfl)
    (hdb : (x == ("__debug__" : Str)) = false := by decide) :
    WE X K CA W (.Call (.Name x p) [] [] pos) (tMakeN K CA W c0 1 0 (fun ds es => F (pickD ds es src)) L2.tNil L2.tNil) (dMakeN c0 fr 1 0 src F dNil dNil) := by
  subst hK
  refine ⟨⟨fun pins s σ H Q I hq => wpAny_Call_Name_kw (ld_glob I hg D.hm ?_ hdb)⟩, sim_makeN (fun m h H σ ρ Q' S t => t.here S.hr .nil) fun m h H σ ρ Q' S t => t.here S.hr .nil⟩
  obtain ⟨l1, l2, q⟩ := hq
  exact PySem.W.callWith_K0 I.kIn D.mkd.kp (run_makeN' (us := []) (ws := []) (vs := []) (zs := []) D hr B tk' hl I .nil .nil l1 l2 q)
/-- C(k = e, ..) -/
theorem we_makeK0 (fr : Bool) (D : Mkd X.prog X.w X.K X.mg X.base CA c0 x k ps F f fd) (hr : Room (k + 1) X.A) (tk' : Takes X W) (h' : WK X K CA W kws hk tk) (B : KwB K CA fd ps 1 ks src) (hl : src.length = ps.length := by rfl) (hg : Gl X x := by rfl) (hK : X.K = K := by rfl)
    (hall : (backToKw pos (keywordEach kws X.env)).all (·.1.isSome) = true := by rfl) (hks : (backToKw pos (keywordEach kws X.env)).filterMap (·.1) = ks := by rfl) (hdb : (x == ("__debug__" : Str)) = false := by decide)
    (hpl : ((backTo pos (starEach [] X.env)).any (·.1) || (backToKw pos (keywordEach kws X.env)).any (·.1.isNone)) = false := by rfl) :
    WE X K CA W (.Call (.Name x p) [] kws pos) (tMakeN K CA W c0 1 ks.length (fun ds es => F (pickD ds es src)) L2.tNil hk) (dMakeN c0 fr 1 ks.length src F dNil tk) := by
  subst hK
  refine ⟨⟨fun pins s σ H Q I hq => wpAny_Call_Name_kw (ld_glob I hg D.hm ?_ hdb)⟩, sim_makeN (fun m h H σ ρ Q' S t => t.here S.hr .nil) h'.sim⟩
  refine PySem.W.callWith_KW0 (h₀ := X.base) I.ok.mod.kin D.mkd.kp hall (thn (h'.pe.run pos pins s σ H _ I hq) fun ws s1 ⟨zs, H1, I1, rz, l1, l2, q⟩ => ⟨I1.kIn, ?_⟩) hpl
  rw [hks]
  exact run_makeN' (us := []) (vs := []) D hr B tk' hl I1 .nil rz l1 l2 q
/-- C(e, .., k = e, ..) -/
theorem we_makeK (fr : Bool) (D : Mkd X.prog X.w X.K X.mg X.base CA c0 x k ps F f fd) (hr : Room (k + 1) X.A) (tk' : Takes X W) (h : WA X K CA W (e :: es) hs ts) (h' : WK X K CA W kws hk tk) (B : KwB K CA fd ps n ks src) (hl : src.length = ps.length := by rfl) (hg : Gl X x := by rfl) (hK : X.K = K := by rfl)
    (hall : (backToKw pos (keywordEach kws X.env)).all (·.1.isSome) = true := by rfl) (hks : (backToKw pos (keywordEach kws X.env)).filterMap (·.1) = ks := by rfl) (hdb : (x == ("__debug__" : Str)) = false := by decide)
    (he : starEach (e :: es) X.env = (false, eval e X.env) :: starEach es X.env := by rfl) (hpl : ((backTo pos (starEach (e :: es) X.env)).any (·.1) || (backToKw pos (keywordEach kws X.env)).any (·.1.isNone)) = false := by rfl) :
    WE X K CA W (.Call (.Name x p) (e :: es) kws pos) (tMakeN K CA W c0 n ks.length (fun ds es => F (pickD ds es src)) hs hk) (dMakeN c0 fr n ks.length src F ts tk) := by
  subst hK
  refine ⟨⟨fun pins s σ H Q I hq => wpAny_Call_Name_kw (ld_glob I hg D.hm ?_ hdb)⟩, sim_makeN h.sim h'.sim⟩
  refine PySem.W.callWith_KW (h₀ := X.base) I.ok.mod.kin D.mkd.kp hall (thn (h.pe.run pos pins s σ H _ I hq) fun us s1 ⟨vs, H1, I1, r, q1⟩ => thn (h'.pe.run pos pins s1 σ H1 _ I1 q1) fun ws s2 ⟨zs, H2, I2, rz, l1, l2, q⟩ => ⟨I2.kIn, ?_⟩) hpl he
  rw [hks]
  exact run_makeN' D hr B tk' hl I2 r rz l1 l2 q
end
/-! ### the module's constants -/
/-- the module's name x stands for the data d, whatever happens -/
def GV (K : PySem.W.Frag) (CA : CAs) (mg : Str → Option Value) (x : Str) (d : D) : Prop := ∃ v u, mg x = some u ∧ RelV v u ∧ ∀ m h H, Rp K CA m h H v d
noncomputable def GV.v {K : PySem.W.Frag} {CA : CAs} {mg : Str → Option Value} {x : Str} {d : D} (G : GV K CA mg x d) : V := Classical.choose G
section
variable {X : Cx} {K : PySem.W.Frag} {CA : CAs} {W : WX} {x : Str} {d : D} {p : Pos} {mg : Str → Option Value}
theorem we_gv (G : GV K CA X.mg x d) (hg : Gl X x := by rfl) (hd : (x == ("__debug__" : Str)) = false := by decide) : WE X K CA W (.Name x p) (L2.tC G.v) (dC d) := by
  have h : ∃ u, X.mg x = some u ∧ RelV G.v u ∧ ∀ m h H, Rp K CA m h H G.v d := Classical.choose_spec G
  obtain ⟨u, h1, h2, h3⟩ := h
  exact ⟨pe_glob hg h1 h2 hd, fun m h H σ ρ Q' S t => t.here S.hr (h3 m h H)⟩
theorem gv_int {i : Int} {t : Tok} (h : mg x = some (.int i t)) : GV K CA mg x (.int i) := ⟨.int i, _, h, ⟨t, rfl⟩, fun _ _ _ => .int i⟩
theorem gv_cls {a : Addr} {c : Nat} (h : mg x = some (.ref a)) (e : CA c = a) : GV K CA mg x (.cls c) := ⟨.ref a, _, h, rfl, fun _ _ _ => by rw [← e]; exact .cls c⟩
/-- written values -/
inductive WrV (K : PySem.W.Frag) : Value → D → Prop
  | str (x : Str) (t : Tok) : WrV K (.str x t) (.str x)
  | int (i : Int) (t : Tok) : WrV K (.int i t) (.int i)
  | bl (b : Bool) : WrV K (.bool b) (.bl b)
  | non : WrV K .none .non
  | tup {a : Addr} {dd : Option Addr} {us : List Value} {n : Nat} {sl : Array (Option Value)} {ds : List D} : K.lookup a = some ⟨.type "tuple", dd, .seq us.toArray n, sl⟩ → Paired (WrV K) us ds → us.length ≤ sizeLine → WrV K (.ref a) (.tup ds)
end
end CM
namespace CM
open PySem PySem.Spec PyProof.Rows L2

/-! ### len -/
def fLen : FD := fun ds h => match ds with
  | [.str z] => if z.length ≤ sizeLine then .ok (.int z.length) h else .no
  | [.scr ns] => .ok (.int ns.length) h
  | [d] => match seqOf h d with
    | some xs => .ok (.int xs.length) h
    | none => match dctOf h d with
      | some kvs => .ok (.int kvs.length) h
      | none => .no
  | _ => .no
def rLenU (K : PySem.W.Frag) : List V → Hp → VK → Prop := fun xs H Q => (∃ p ys, xs = [V.ref p] ∧ (SqL K H p ys ∨ SqT K H p ys) ∧ Q (.int ys.length) H) ∨ ((∃ z, xs = [V.str z] ∧ z.length ≤ sizeLine ∧ Q (.int z.length) H) ∨ ∃ a kvs, xs = [V.ref a] ∧ Rd H a (.dK kvs) ∧ Q (.int kvs.length) H)
section
variable {X : Cx} {K : PySem.W.Frag} {CA : CAs} {W : WX}
theorem call_lenU (hK : X.K = K := by rfl) (hl : CallR X (.builtin "len") (fun xs H Q => ∃ a kvs, xs = [V.ref a] ∧ Rd H a (.dK kvs) ∧ Q (.int kvs.length) H)) : CallR X (.builtin "len") (rLenU K) := by subst hK; exact call_len_seq.or (call_len_str.or hl)
theorem sim_len : SimC K CA (rLenU K) fLen := by
  intro W σ m h H xs ds Q' S r t
  unfold fLen at t
  split at t
  · obtain ⟨l, t⟩ := post_ite t
    cases r with
    | cons r1 r2 => cases r1; cases r2; exact .inr (.inl ⟨_, rfl, l, t.here S (.int _)⟩)
  · cases r with
    | cons r1 r2 =>
      cases r2
      cases r1 with
      | scr n e => exact .inl ⟨_, _, rfl, .inl (.inl (.inr ⟨_, e⟩)), by rw [List.length_map]; exact t.here S (.int _)⟩
      | kscr e => exact .inl ⟨_, _, rfl, .inl (sl_emp e), by rw [List.length_map]; exact t.here S (.int _)⟩
  · cases r with
    | cons r1 r2 =>
      cases r2
      split at t
      · rename_i xs e
        obtain ⟨a, ys, rfl, e1, rr⟩ := rp_seq S r1 e
        exact .inl ⟨a, ys, rfl, e1, by rw [rr.length]; exact t.here S (.int _)⟩
      · split at t
        · rename_i kvs e
          obtain ⟨a, o, hk, rfl, e1, c, en, rr⟩ := rp_dct S r1 e
          refine .inr (.inr ⟨a, hk, rfl, ?_, by rw [len_of en]; exact t.here S (.int _)⟩)
          rcases core_dK c with rfl | ⟨ob, rfl⟩
          · exact .inl e1
          · exact .inr ⟨ob, e1⟩
        · exact t.elim
  · exact t.elim
end
/-! ### isinstance -/
inductive Tg where
  | b (n : String) | o (c : Nat)
  deriving DecidableEq
def tgOf (h : CH) : D → Option Tg
  | .non => some (.b "NoneType") | .bl _ => some (.b "bool") | .int _ => some (.b "int") | .str _ => some (.b "str") | .lst _ => some (.b "list") | .tup _ => some (.b "tuple") | .dct _ => some (.b "dict")
  | .obj c _ => some (.o c)
  | .scr _ => some (.b "list")
  | .ref k => match h.ob k with
    | some (.lst _) => some (.b "list")
    | some (.dct _) => some (.b "dict")
    | some (.lck _) => some (.b "dict")
    | some (.lkl _) => some (.b "list")
    | some (.obj c _) => some (.o c)
    | _ => none
  | _ => none
def clsOf : D → Option Tg
  | .ty n => some (.b n)
  | .cls c => some (.o c)
  | _ => none
def clssOf : List D → Option (List Tg)
  | [] => some []
  | d :: ds => match clsOf d, clssOf ds with
    | some t, some ts => some (t :: ts)
    | _, _ => none
def Tg.v (CA : CAs) : Tg → Value
  | .b n => .type n
  | .o c => .ref (CA c)
abbrev KT := Tg → Tg → Option Bool
/-- what the table says is so; and the own classes are plain ones -/
structure KtOk (K : PySem.W.Frag) (CA : CAs) (own : List Nat) (kt : KT) : Prop where
  one : ∀ a b r, kt a b = some r → PySem.W.kitOne K (a.v CA) (b.v CA) = some r
  ins : ∀ c, c ∈ own → Cls K (CA c) ∧ PySem.W.findIn K (.ref (CA c)) "__class__" = some (some (.builtin "object.__class__")) ∧ PySem.W.specialIn K (.builtin "object.__class__") "__get__" = some (some (.builtin "getset_descriptor.__get__")) ∧ PySem.W.takesIn K (.builtin "object.__class__") = some true ∧ PySem.W.mroIn K (CA c) (.type "object") = some true
def okTg (own : List Nat) : Tg → Bool
  | .b _ => true
  | .o c => decide (c ∈ own)
def fIsi (own : List Nat) (kt : KT) : FD := fun ds h => match ds with
  | [d, t] => match tgOf h d, clsOf t with
    | some a, some b => if okTg own a = true then (match kt a b with
      | some r => .ok (.bl r) h
      | none => .no) else .no
    | _, _ => .no
  | _ => .no
def ktAny (kt : KT) (a : Tg) : List Tg → Option Bool
  | [] => some false
  | b :: bs => match kt a b with
    | some true => some true
    | some false => ktAny kt a bs
    | none => none
def fIsT (own : List Nat) (kt : KT) : FD := fun ds h => match ds with
  | [d, .tup ts] => match tgOf h d, clssOf ts with
    | some a, some bs => if okTg own a = true then (match ktAny kt a bs with
      | some r => .ok (.bl r) h
      | none => .no) else .no
    | _, _ => .no
  | _ => .no
section
variable {X : Cx} {K : PySem.W.Frag} {CA : CAs} {W : WX} {m : Mp} {h : CH} {H : Hp} {own : List Nat} {kt : KT}
theorem rp_tg {v : V} {d : D} {a : Tg} (kk : KtOk K CA own kt) (S : HR K CA m h H) (r : Rp K CA m h H v d) (e : tgOf h d = some a) (ok : okTg own a = true) : TyX K H v (a.v CA) := by
  have io : ∀ {c : Nat} {p dx : Addr} {fs : List (Str × V)}, H p = some (.ins (CA c) dx fs) → okTg own (.o c) = true → TyX K H (.ref p) ((Tg.o c).v CA) := fun {c p dx fs} e ok => by
    obtain ⟨h1, h2, h3, h4, h5⟩ := kk.ins c (by simpa [okTg] using ok)
    exact .base (.ins e h1 h2 h3 h4 h5)
  cases r with
  | non => cases e; exact .base .non
  | bl b => cases e; exact .base (.bl b)
  | int b => cases e; exact .base (.int b)
  | str b => cases e; exact .base (.str b)
  | lst _ q _ => cases e; exact .base (.lst q)
  | tup _ q _ => cases e; exact .base (.tup q)
  | ktup q _ =>
    cases e
    rcases q with q | ⟨o, its, n, hk, hc, _⟩
    · rcases q with q | ⟨o, q⟩ <;> cases q
    · exact .kTuple hk hc
  | dct _ q c _ _ =>
    cases e
    rcases core_dK c with rfl | ⟨ob, rfl⟩
    · exact .base (.dK q)
    · exact .fDict q
  | obj _ q _ _ => cases e; exact io q ok
  | scr _ q => cases e; exact .base (.frz q)
  | kscr q =>
    cases e
    rcases q with q | ⟨o, its, n, hk, hc, _⟩
    · rcases q with q | ⟨o, q⟩ <;> cases q
    · exact .kList hk hc
  | ref l =>
    simp only [tgOf] at e
    split at e
    · rename_i q
      obtain ⟨xs, q1, _⟩ := mo_lst S q
      cases e; exact .base (.lst q1)
    · rename_i q
      obtain ⟨xs, q1, _⟩ := mo_dct S q
      cases e; exact .base (.dK q1)
    · rename_i q
      have x := (S.ob _ _ q).2
      cases x with
      | lck q1 en r => cases e; exact .fDict q1
    · rename_i q
      have x := (S.ob _ _ q).2
      cases x with
      | lkl q1 r => cases e; exact .base (.lst q1)
    · rename_i q
      obtain ⟨dx, xs, q1, _⟩ := mo_obj S q
      cases e; exact io q1 ok
    · cases e
  | ty => cases e
  | cls => cases e
  | exc => cases e
theorem rp_cls {v : V} {d : D} {b : Tg} (r : Rp K CA m h H v d) (e : clsOf d = some b) : ClsV v (b.v CA) := by
  cases r with
  | ty n => cases e; exact .ty n
  | cls c => cases e; exact .own _
  | _ => cases e
theorem rp_clss {vs : List V} {ds : List D} {bs : List Tg} (r : RpAll K CA m h H vs ds) (e : clssOf ds = some bs) : Paired ClsV vs (bs.map (Tg.v CA)) := by
  induction vs generalizing ds bs with
  | nil => cases r; cases e; exact .nil
  | cons v vs ih =>
    cases r with
    | cons r1 r2 =>
      simp only [clssOf] at e
      split at e
      · rename_i t ts e1 e2
        cases e
        exact .cons (rp_cls r1 e1) (ih r2 e2)
      · cases e
theorem kt_any {a : Tg} (kk : KtOk K CA own kt) : ∀ {bs : List Tg} {r : Bool}, ktAny kt a bs = some r → PySem.W.kitAny K (a.v CA) (bs.map (Tg.v CA)) = some r
  | [], r, e => by cases e; rfl
  | b :: bs, r, e => by
    simp only [ktAny] at e
    simp only [List.map_cons, PySem.W.kitAny]
    split at e
    · rename_i q
      rw [kk.one a b _ q]
      exact e
    · rename_i q
      rw [kk.one a b _ q]
      exact kt_any kk e
    · cases e
theorem call_isiU (hK : X.K = K := by rfl) : CallR X (.builtin "isinstance") (rIsi K) := by subst hK; exact call_isi
theorem sim_isi (kk : KtOk K CA own kt) : SimC K CA (rIsi K) (fIsi own kt) := by
  intro W σ m h H xs ds Q' S r t
  unfold fIsi at t
  split at t
  · split at t
    · rename_i a b ea eb
      obtain ⟨ok, t⟩ := post_ite t
      split at t
      · rename_i r' ek
        cases r with
        | cons r1 r2 => cases r2 with
          | cons r2 r3 => cases r3; exact ⟨_, _, _, _, _, rfl, rp_cls r2 eb, rp_tg kk S r1 ea ok, kk.one _ _ _ ek, t.here S (.bl _)⟩
      · exact t.elim
    · exact t.elim
  · exact t.elim
def rIsiU (K : PySem.W.Frag) : List V → Hp → VK → Prop := fun xs H Q => rIsiT K xs H Q ∨ rIsiK K xs H Q
theorem call_isiTU (hK : X.K = K := by rfl) : CallR X (.builtin "isinstance") (rIsiU K) := by subst hK; exact call_isiT.or call_isiK
theorem sim_isT (kk : KtOk K CA own kt) : SimC K CA (rIsiU K) (fIsT own kt) := by
  intro W σ m h H xs ds Q' S r t
  unfold fIsT at t
  split at t
  · split at t
    · rename_i a bs ea eb
      obtain ⟨ok, t⟩ := post_ite t
      split at t
      · rename_i r' ek
        cases r with
        | cons r1 r2 => cases r2 with
          | cons r2 r3 =>
            cases r3
            cases r2 with
            | tup n2 e2 ra => exact .inl ⟨_, _, _, _, _, _, rfl, e2, rp_clss ra eb, rp_tg kk S r1 ea ok, kt_any kk ek, t.here S (.bl _)⟩
            | ktup hk ra =>
              have hp := rp_clss ra eb
              have ha := kt_any kk ek
              rcases hk with hk | ⟨ob, its, m2, h1, h2, h3, h4, h5⟩
              · rcases hk with hk | ⟨_, hk⟩ <;> cases hk
              · have e3 := ClsV.all hp h5
                obtain ⟨oc, od, dt, sl⟩ := ob
                simp only at h2 h3
                subst h2 h3
                refine .inr ⟨_, _, od, _, m2, sl, _, _, rfl, ?_, rp_tg kk S r1 ea ok, ha, t.here S (.bl _)⟩
                rw [h1, ← e3]
      · exact t.elim
    · exact t.elim
  · exact t.elim
end
/-! ### repr -/
/-- the text is short: a count over its parts that is easy to bound -/
def fRepr : FD := fun ds h => match ds with
  | [d] => match seqOf h d, toP h 12 d with
    | some _, some p => if p.showable = true ∧ p.depth ≤ 60 ∧ p.shown.length ≤ sizeLine then .ok (.str p.shown) h else .no
    | _, _ => .no
  | _ => .no
def rShow (K : PySem.W.Frag) : List V → Hp → VK → Prop := fun xs H Q => ∃ a p, xs = [V.ref a] ∧ Dp K H (V.ref a) p ∧ p.hasDict = false ∧ p.showable = true ∧ p.depth ≤ 60 ∧ p.shown.length ≤ sizeLine ∧ Q (.str p.shown) H
section
variable {X : Cx} {K : PySem.W.Frag} {CA : CAs} {W : WX} {m : Mp} {h : CH} {H : Hp}
theorem noDict_of {f : D → Option PyData} (ih : ∀ (d : D) (p : PyData), f d = some p → p.hasDict = false) : ∀ (ds : List D) (ps : List PyData), ds.mapM f = some ps → PyData.hasDictAll ps = false
  | [], _, e => by simp at e; subst e; rfl
  | d :: ds, _, e => by
    simp only [List.mapM_cons, Option.bind_eq_bind, Option.bind_eq_some_iff, Option.pure_def, Option.some.injEq] at e
    obtain ⟨p, e1, ps, e2, rfl⟩ := e
    simp only [PyData.hasDictAll, ih d p e1, noDict_of ih ds ps e2, Bool.or_self]
theorem toP_noDict : ∀ (n : Nat) (d : D) (p : PyData), toP h n d = some p → p.hasDict = false
  | 0, d, _, e => by cases d <;> cases e
  | n + 1, .non, _, e => by simp only [toP, Option.some.injEq] at e; subst e; rfl
  | n + 1, .bl b, _, e => by simp only [toP, Option.some.injEq] at e; subst e; rfl
  | n + 1, .int b, _, e => by simp only [toP, Option.some.injEq] at e; subst e; rfl
  | n + 1, .str b, _, e => by simp only [toP, Option.some.injEq] at e; subst e; rfl
  | n + 1, .lst ds, _, e => by
    simp only [toP, Option.map_eq_some_iff] at e
    obtain ⟨ps, e1, rfl⟩ := e
    simp only [PyData.hasDict]
    exact noDict_of (toP_noDict n) ds ps e1
  | n + 1, .tup ds, _, e => by
    simp only [toP, Option.map_eq_some_iff] at e
    obtain ⟨ps, e1, rfl⟩ := e
    simp only [PyData.hasDict]
    exact noDict_of (toP_noDict n) ds ps e1
  | n + 1, .ref k, _, e => by
    simp only [toP] at e
    split at e
    · simp only [Option.map_eq_some_iff] at e
      obtain ⟨ps, e1, rfl⟩ := e
      simp only [PyData.hasDict]
      exact noDict_of (toP_noDict n) _ ps e1
    · cases e
  | n + 1, .dct _, _, e => by simp [toP] at e
  | n + 1, .obj _ _, _, e => by simp [toP] at e
  | n + 1, .scr _, _, e => by simp [toP] at e
  | n + 1, .ty _, _, e => by simp [toP] at e
  | n + 1, .cls _, _, e => by simp [toP] at e
  | n + 1, .exc _ _, _, e => by simp [toP] at e
theorem call_show (hG : X.A.guards = some []) (hu : X.A.units + 64 < cLine) (hK : X.K = K := by rfl) : CallR X (.builtin "repr") (rShow K) := by
  subst hK
  rintro pins s σ H xs us Q I r ⟨a, p, rfl, dp, nd, sh, dep, sz, q⟩
  obtain ⟨u, rfl, rx⟩ := vals1 r
  cases (show u = Value.ref a from rx)
  obtain ⟨as, rd⟩ := Dp.reads I p (V.ref a) _ dp rfl
  exact repr_of_reads' rd sh (PyData.noDict_hsm nd) hG (by omega) (fun _ _ e => e) (fun h' u tk hk => ⟨.str p.shown, H, I.kept hk, ⟨u, rfl⟩, q⟩) sz
theorem sim_repr : SimC K CA (rShow K) fRepr := by
  intro W σ m h H xs ds Q' S r t
  unfold fRepr at t
  split at t
  · split at t
    · rename_i es p e1 e2
      obtain ⟨⟨c1, c2, c3⟩, t⟩ := post_ite t
      cases r with
      | cons r1 r2 =>
        cases r2
        obtain ⟨a, ys, rfl, _, _⟩ := rp_seq S r1 e1
        exact ⟨a, p, rfl, rp_dp S _ _ _ p r1 e2, toP_noDict _ _ p e2, c1, c2, c3, t.here S (.str _)⟩
    · exact t.elim
  · exact t.elim
/-! ### list(x), tuple(x), dict(x) -/
def fListOf (nm : Bool) : FD := fun ds h => match ds with
  | [d] => match seqOf h d with
    | some xs => mkL nm xs h
    | none => .no
  | _ => .no
def fTupOf : FD := fun ds h => match ds with
  | [.tup xs] => .ok (.tup xs) h
  | [d] => match lstOf h d with
    | some xs => .ok (.tup xs) h
    | none => .no
  | _ => .no
def fDctOf (nm : Bool) : FD := fun ds h => match ds with
  | [d] => match dctOf h d with
    | some kvs => mkD nm kvs h
    | none => .no
  | _ => .no
def rListOf (K : PySem.W.Frag) : List V → Hp → VK → Prop := fun xs H Q => ∃ p ys, xs = [V.ref p] ∧ (SqL K H p ys ∨ SqT K H p ys) ∧ ∀ l, H l = none → Q (.ref l) (upd H l (.lst ys))
def rTupOf (K : PySem.W.Frag) : List V → Hp → VK → Prop := fun xs H Q => ∃ p ys, xs = [V.ref p] ∧ ((SqL K H p ys ∧ ∀ l, H l = none → Q (.ref l) (upd H l (.tup ys))) ∨ (SqT K H p ys ∧ Q (.ref p) H))
def rDctOf : List V → Hp → VK → Prop := fun xs H Q => ∃ (a : Addr) (kvs : List (Key × V)), xs = [.ref a] ∧ Rd H a (.dK kvs) ∧ ∀ p, H p = none → Q (.ref p) (upd H p (.dK kvs))
theorem call_listOf (hK : X.K = K := by rfl) : CallR X (.type "list") (rListOf K) := by subst hK; exact call_list_of
theorem call_tupOf (hK : X.K = K := by rfl) : CallR X (.type "tuple") (rTupOf K) := by subst hK; exact call_tuple_of
theorem sim_listOf {nm : Bool} : SimC K CA (rListOf K) (fListOf nm) := by
  intro W σ m h H xs ds Q' S r t
  unfold fListOf at t
  split at t
  · split at t
    · rename_i xs e
      cases r with
      | cons r1 r2 =>
        cases r2
        obtain ⟨a, ys, rfl, e1, rr⟩ := rp_seq S r1 e
        exact ⟨a, ys, rfl, e1, fun l n => mkL_post S n rr t⟩
    · exact t.elim
  · exact t.elim
theorem sim_tupOf : SimC K CA (rTupOf K) fTupOf := by
  intro W σ m h H xs ds Q' S r t
  unfold fTupOf at t
  split at t
  · cases r with
    | cons r1 r2 =>
      cases r2
      obtain ⟨a, ys, rfl, e1, rr⟩ := rp_tup r1
      exact ⟨a, ys, rfl, .inr ⟨e1, t.here S r1⟩⟩
  · split at t
    · rename_i xs e
      cases r with
      | cons r1 r2 =>
        cases r2
        obtain ⟨a, ys, rfl, e1, rr⟩ := rp_lst S r1 e
        exact ⟨a, ys, rfl, .inl ⟨.of e1, fun l n => t.laid S n (.tup (S.fresh n) upd_same (rps_laid S n rr))⟩⟩
    · exact t.elim
  · exact t.elim
theorem sim_dctOf {nm : Bool} : SimC K CA rDctOf (fDctOf nm) := by
  intro W σ m h H xs ds Q' S r t
  unfold fDctOf at t
  split at t
  · split at t
    · rename_i kvs e
      cases r with
      | cons r1 r2 =>
        cases r2
        obtain ⟨a, o, hk, rfl, e1, c, en, rr⟩ := rp_dct S r1 e
        refine ⟨a, hk, rfl, ?_, fun p n => mkD_post S n en rr t⟩
        rcases core_dK c with rfl | ⟨ob, rfl⟩
        · exact .inl e1
        · exact .inr ⟨ob, e1⟩
    · exact t.elim
  · exact t.elim
/-! ### min, max, abs, int -/
def fMin : FD := fun ds h => match ds with
  | [.int i, .int j] => .ok (.int (if j < i then j else i)) h
  | _ => .no
def fMax : FD := fun ds h => match ds with
  | [.int i, .int j] => .ok (.int (if j > i then j else i)) h
  | _ => .no
def fAbs : FD := fun ds h => match ds with
  | [.int i] => .ok (.int (if i < 0 then -i else i)) h
  | _ => .no
def fInt : FD := fun ds h => match ds with
  | [.int i] => .ok (.int i) h
  | [.bl k] => .ok (.int (if k then 1 else 0)) h
  | _ => .no
def fNeg : F1 := fun d h => match d with
  | .int i => .ok (.int (-i)) h
  | _ => .no
def rMin : List V → Hp → VK → Prop := fun xs H Q => ∃ i j, xs = [V.int i, V.int j] ∧ Q (.int (if j < i then j else i)) H
def rMax : List V → Hp → VK → Prop := fun xs H Q => ∃ i j, xs = [V.int i, V.int j] ∧ Q (.int (if j > i then j else i)) H
def rAbs : List V → Hp → VK → Prop := fun xs H Q => ∃ i, xs = [V.int i] ∧ Q (.int (if i < 0 then -i else i)) H
def rInt : List V → Hp → VK → Prop := fun xs H Q => (∃ i, xs = [V.int i] ∧ Q (.int i) H) ∨ ∃ k, xs = [V.bl k] ∧ Q (.int (if k then 1 else 0)) H
theorem call_minU (hc : X.calm = true := by rfl) : CallR X (.builtin "min") rMin := call_min2 hc
theorem call_maxU (hc : X.calm = true := by rfl) : CallR X (.builtin "max") rMax := call_max2 hc
theorem sim_min : SimC K CA rMin fMin := by
  intro W σ m h H xs ds Q' S r t
  unfold fMin at t
  split at t
  · cases r with
    | cons r1 r2 => cases r2 with
      | cons r2 r3 => cases r1; cases r2; cases r3; exact ⟨_, _, rfl, t.here S (.int _)⟩
  · exact t.elim
theorem sim_max : SimC K CA rMax fMax := by
  intro W σ m h H xs ds Q' S r t
  unfold fMax at t
  split at t
  · cases r with
    | cons r1 r2 => cases r2 with
      | cons r2 r3 => cases r1; cases r2; cases r3; exact ⟨_, _, rfl, t.here S (.int _)⟩
  · exact t.elim
theorem sim_abs : SimC K CA rAbs fAbs := by
  intro W σ m h H xs ds Q' S r t
  unfold fAbs at t
  split at t
  · cases r with
    | cons r1 r2 => cases r1; cases r2; exact ⟨_, rfl, t.here S (.int _)⟩
  · exact t.elim
theorem sim_int : SimC K CA rInt fInt := by
  intro W σ m h H xs ds Q' S r t
  unfold fInt at t
  split at t
  · cases r with
    | cons r1 r2 => cases r1; cases r2; exact .inl ⟨_, rfl, t.here S (.int _)⟩
  · cases r with
    | cons r1 r2 => cases r1; cases r2; exact .inr ⟨_, rfl, t.here S (.int _)⟩
  · exact t.elim
end
end CM
namespace CM
open PySem PySem.Spec PyProof.Rows L2

/-! ### sorted: the one list that it can be -/
def insB {α : Type} (lt : α → α → Bool) (x : α) : List α → List α
  | [] => [x]
  | y :: r => if lt y x = true then y :: insB lt x r else x :: y :: r
def sortB {α : Type} (lt : α → α → Bool) : List α → List α
  | [] => []
  | x :: r => insB lt x (sortB lt r)
theorem insB_perm {α : Type} {lt : α → α → Bool} (x : α) : ∀ l : List α, (insB lt x l).Perm (x :: l)
  | [] => .refl _
  | y :: r => by
    unfold insB
    split
    · exact ((insB_perm x r).cons y).trans (.swap x y r)
    · exact .refl _
theorem sortB_perm {α : Type} {lt : α → α → Bool} : ∀ l : List α, (sortB lt l).Perm l
  | [] => .refl _
  | x :: r => (insB_perm x _).trans ((sortB_perm r).cons x)
theorem insB_sorted {α : Type} {lt : α → α → Bool} (asym : ∀ a b, lt a b = true → lt b a = false) (tr : ∀ a b c, lt b a = false → lt c b = false → lt c a = false) (x : α) : ∀ l : List α, l.Pairwise (fun a b => lt b a = false) → (insB lt x l).Pairwise (fun a b => lt b a = false)
  | [], _ => by simp [insB]
  | y :: r, h => by
    unfold insB
    rw [List.pairwise_cons] at h
    split
    · rename_i q
      rw [List.pairwise_cons]
      refine ⟨fun z hz => ?_, insB_sorted asym tr x r h.2⟩
      rcases List.mem_cons.mp ((insB_perm x r).mem_iff.mp hz) with rfl | hz
      · exact asym _ _ q
      · exact h.1 z hz
    · rename_i q
      rw [List.pairwise_cons]
      refine ⟨fun z hz => ?_, List.pairwise_cons.mpr h⟩
      have q' : lt y x = false := by simpa using q
      rcases List.mem_cons.mp hz with rfl | hz
      · exact q'
      · exact tr _ _ _ q' (h.1 z hz)
theorem sortB_sorted {α : Type} {lt : α → α → Bool} (asym : ∀ a b, lt a b = true → lt b a = false) (tr : ∀ a b c, lt b a = false → lt c b = false → lt c a = false) : ∀ l : List α, (sortB lt l).Pairwise (fun a b => lt b a = false)
  | [] => .nil
  | x :: r => insB_sorted asym tr x _ (sortB_sorted asym tr r)
def ltI (a b : Int) : Bool := decide (a < b)
def sortI : List Int → List Int := sortB ltI
theorem sortI_sorted (l : List Int) : (sortI l).Pairwise (· ≤ ·) := (sortB_sorted (lt := ltI) (fun a b h => by simp [ltI] at *; omega) (fun a b c h1 h2 => by simp [ltI] at *; omega) l).imp fun {a b} h => by simp [ltI] at h; exact h
theorem sortI_perm (l : List Int) : (sortI l).Perm l := sortB_perm l
theorem sortI_eq {l l' : List Int} (p : l'.Perm l) (h : l'.Pairwise (· ≤ ·)) : l' = sortI l := PySem.W.ksm_same (p.trans (sortI_perm l).symm) h (sortI_sorted l)
def ltS (a b : Str) : Bool := ltCps a.cps.toList b.cps.toList
theorem ltCps_asym : ∀ a b : List Nat, ltCps a b = true → ltCps b a = false
  | [], [], h => by cases h
  | [], _ :: _, _ => rfl
  | _ :: _, [], h => by cases h
  | a :: r, b :: t, h => by
    simp only [ltCps, Bool.or_eq_true, decide_eq_true_eq, Bool.and_eq_true, beq_iff_eq] at h
    simp only [ltCps, Bool.or_eq_false_iff, decide_eq_false_iff_not, Bool.and_eq_false_iff, beq_eq_false_iff_ne]
    rcases h with h | ⟨rfl, h⟩
    · exact ⟨by omega, .inl (by omega)⟩
    · exact ⟨by omega, .inr (ltCps_asym r t h)⟩
theorem ltCps_tr : ∀ a b c : List Nat, ltCps b a = false → ltCps c b = false → ltCps c a = false
  | [], b, c, h1, h2 => by cases c <;> rfl
  | a :: r, [], c, h1, h2 => by cases h1
  | a :: r, b :: t, [], h1, h2 => by cases h2
  | a :: r, b :: t, c :: u, h1, h2 => by
    simp only [ltCps, Bool.or_eq_false_iff, decide_eq_false_iff_not, Bool.and_eq_false_iff, beq_eq_false_iff_ne] at *
    refine ⟨by omega, ?_⟩
    by_cases q : c = a
    · right
      subst q
      have e : b = c := by omega
      subst e
      exact ltCps_tr r t u (h1.2.resolve_left (by simp)) (h2.2.resolve_left (by simp))
    · exact .inl q
theorem ltCps_tot : ∀ a b : List Nat, ltCps a b = false → ltCps b a = false → a = b
  | [], [], _, _ => rfl
  | [], _ :: _, h, _ => by cases h
  | _ :: _, [], _, h => by cases h
  | a :: r, b :: t, h1, h2 => by
    simp only [ltCps, Bool.or_eq_false_iff, decide_eq_false_iff_not, Bool.and_eq_false_iff, beq_eq_false_iff_ne] at *
    have e : a = b := by omega
    subst e
    rw [ltCps_tot r t (h1.2.resolve_left (by simp)) (h2.2.resolve_left (by simp))]
def sortS : List Str → List Str := sortB ltS
theorem str_cps {a b : Str} (h : a.cps.toList = b.cps.toList) : a = b := by
  obtain ⟨a⟩ := a
  obtain ⟨b⟩ := b
  simp only at h
  rw [Array.toList_inj.mp h]
theorem risingS_pw : ∀ (p : Str) (l : List Str), risingS p l = true → (p :: l).Pairwise (fun a b => ltS b a = false)
  | p, [], _ => by simp
  | p, x :: r, h => by
    simp only [risingS, Bool.and_eq_true, Bool.not_eq_true'] at h
    have ih := risingS_pw x r h.2
    rw [List.pairwise_cons]
    refine ⟨fun z hz => ?_, ih⟩
    rcases List.mem_cons.mp hz with rfl | hz
    · exact h.1
    · exact ltCps_tr _ _ _ h.1 ((List.pairwise_cons.mp ih).1 z hz)
theorem sortS_eq {l l' : List Str} (p : l'.Perm l) (h : sortedS l' = true) : l' = sortS l := by
  have h' : l'.Pairwise (fun a b => ltS b a = false) := by
    cases l' with
    | nil => exact .nil
    | cons x r => exact risingS_pw x r h
  exact (p.trans (sortB_perm (lt := ltS) l).symm).eq_of_pairwise (fun a b _ _ h1 h2 => str_cps (ltCps_tot _ _ h2 h1)) h' (sortB_sorted (lt := ltS) (fun a b q => ltCps_asym _ _ q) (fun a b c q1 q2 => ltCps_tr _ _ _ q1 q2) l)
theorem sortS_perm (l : List Str) : (sortS l).Perm l := sortB_perm l
def intsOf : List D → Option (List Int)
  | [] => some []
  | .int i :: r => match intsOf r with
    | some is => some (i :: is)
    | none => none
  | _ => none
def strsOf : List D → Option (List Str)
  | [] => some []
  | .str i :: r => match strsOf r with
    | some is => some (i :: is)
    | none => none
  | _ => none
def blsOf : List D → Option (List Bool)
  | [] => some []
  | .bl i :: r => match blsOf r with
    | some is => some (i :: is)
    | none => none
  | _ => none
def fSort (nm : Bool) : FD := fun ds h => match ds with
  | [d] => match lstOf h d with
    | some xs => match intsOf xs with
      | some is => mkL nm ((sortI is).map D.int) h
      | none => match strsOf xs with
        | some ss => if ss.length < 64 then mkL nm ((sortS ss).map D.str) h else .no
        | none => .no
    | none => match dctOf h d with
      | some kvs => match intsOf (kvs.map fun kv => kD kv.1) with
        | some is => if is.length < 64 then mkL nm ((sortI is).map D.int) h else .no
        | none => match strsOf (kvs.map fun kv => kD kv.1) with
          | some ss => if ss.length < 64 then mkL nm ((sortS ss).map D.str) h else .no
          | none => .no
      | none => .no
  | _ => .no
def fAllB (neg : Bool) : FD := fun ds h => match ds with
  | [d] => match lstOf h d with
    | some xs => match blsOf xs with
      | some bs => .ok (.bl (if neg then bs.any id else bs.all id)) h
      | none => .no
    | none => .no
  | _ => .no
section
variable {X : Cx} {K : PySem.W.Frag} {CA : CAs} {W : WX} {m : Mp} {h : CH} {H : Hp} {e : Expr} {pos : Pos} {ha : TE} {ta : TD}
theorem rp_ints : ∀ {ds : List D} {is : List Int} {vs : List V}, RpAll K CA m h H vs ds → intsOf ds = some is → vs = is.map V.int ∧ ds = is.map D.int
  | [], is, vs, r, e => by cases r; cases e; exact ⟨rfl, rfl⟩
  | d :: ds, is, vs, r, e => by
    cases r with
    | cons r1 r2 =>
      cases r1 with
      | int i =>
        simp only [intsOf] at e
        split at e
        · rename_i is' e'
          cases e
          obtain ⟨e1, e2⟩ := rp_ints r2 e'
          exact ⟨by rw [e1]; rfl, by rw [e2]; rfl⟩
        · cases e
      | _ => simp [intsOf] at e
theorem rp_strs : ∀ {ds : List D} {is : List Str} {vs : List V}, RpAll K CA m h H vs ds → strsOf ds = some is → vs = is.map V.str ∧ ds = is.map D.str
  | [], is, vs, r, e => by cases r; cases e; exact ⟨rfl, rfl⟩
  | d :: ds, is, vs, r, e => by
    cases r with
    | cons r1 r2 =>
      cases r1 with
      | str i =>
        simp only [strsOf] at e
        split at e
        · rename_i is' e'
          cases e
          obtain ⟨e1, e2⟩ := rp_strs r2 e'
          exact ⟨by rw [e1]; rfl, by rw [e2]; rfl⟩
        · cases e
      | _ => simp [strsOf] at e
theorem rp_bls : ∀ {ds : List D} {is : List Bool} {vs : List V}, RpAll K CA m h H vs ds → blsOf ds = some is → vs = is.map V.bl ∧ ds = is.map D.bl
  | [], is, vs, r, e => by cases r; cases e; exact ⟨rfl, rfl⟩
  | d :: ds, is, vs, r, e => by
    cases r with
    | cons r1 r2 =>
      cases r1 with
      | bl i =>
        simp only [blsOf] at e
        split at e
        · rename_i is' e'
          cases e
          obtain ⟨e1, e2⟩ := rp_bls r2 e'
          exact ⟨by rw [e1]; rfl, by rw [e2]; rfl⟩
        · cases e
      | _ => simp [blsOf] at e
theorem all_strs : ∀ ns : List Str, RpAll K CA m h H (ns.map V.str) (ns.map D.str)
  | [] => .nil
  | n :: ns => .cons (.str n) (all_strs ns)
abbrev rSrt (K : PySem.W.Frag) : List V → Hp → VK → Prop := fun xs H Q => rSortedI K xs H Q ∨ (rSortedS K xs H Q ∨ ((∃ (a : Addr) (kvs : List (Key × V)) (ks : List Int), xs = [.ref a] ∧ Rd H a (.dK kvs) ∧ kvs.map (·.1) = ks.map Sum.inl ∧ ks.length < 64 ∧
    ∀ (ys : List Int) (p : Addr), ys.Perm ks → ys.Pairwise (· ≤ ·) → H p = none → Q (.ref p) (upd H p (.lst (ys.map V.int)))) ∨ (∃ (a : Addr) (kvs : List (Key × V)) (ks : List Str), xs = [.ref a] ∧ Rd H a (.dK kvs) ∧ kvs.map (·.1) = ks.map Sum.inr ∧ ks.length < 64 ∧
    ∀ ys p, ys.Perm ks → sortedS ys = true → H p = none → Q (.ref p) (upd H p (.lst (ys.map V.str))))))
theorem call_sortU (hc : X.calm = true := by rfl) (hK : X.K = K := by rfl) : CallR X (.builtin "sorted") (rSrt K) := by subst hK; exact cr_sortedI.or (cr_sortedS.or ((call_sortedDI hc).or (call_sortedD hc)))
theorem keys_ints : ∀ {kvs : List (Key × D)} {is : List Int}, intsOf (kvs.map fun kv => kD kv.1) = some is → kvs.map (·.1) = is.map Sum.inl
  | [], is, e => by cases e; rfl
  | (k, d) :: kvs, is, e => by
    cases k with
    | inl i =>
      simp only [List.map_cons, kD, intsOf] at e
      split at e
      · rename_i is' e'
        cases e
        rw [List.map_cons, List.map_cons, keys_ints e']
      · cases e
    | inr x => simp [kD, intsOf] at e
theorem keys_strs : ∀ {kvs : List (Key × D)} {is : List Str}, strsOf (kvs.map fun kv => kD kv.1) = some is → kvs.map (·.1) = is.map Sum.inr
  | [], is, e => by cases e; rfl
  | (k, d) :: kvs, is, e => by
    cases k with
    | inr i =>
      simp only [List.map_cons, kD, strsOf] at e
      split at e
      · rename_i is' e'
        cases e
        rw [List.map_cons, List.map_cons, keys_strs e']
      · cases e
    | inl x => simp [kD, strsOf] at e
theorem sim_sort {nm : Bool} : SimC K CA (rSrt K) (fSort nm) := by
  intro W σ m h H xs ds Q' S r t
  unfold fSort at t
  split at t
  · cases r with
    | cons r1 r2 =>
      cases r2
      split at t
      · rename_i xs e
        obtain ⟨a, ys, rfl, e1, rr⟩ := rp_lst S r1 e
        split at t
        · rename_i is ei
          obtain ⟨q1, q2⟩ := rp_ints rr ei
          subst q1
          exact .inl ⟨a, is, rfl, .of e1, fun ns' p h1 h2 n => by rw [sortI_eq h1 h2]; exact mkL_post S n (all_ints _) t⟩
        · split at t
          · rename_i ss es
            obtain ⟨l, t⟩ := post_ite t
            obtain ⟨q1, q2⟩ := rp_strs rr es
            subst q1
            exact .inr (.inl ⟨a, ss, rfl, .of e1, l, fun ns' p h1 h2 n => by rw [sortS_eq h1 h2]; exact mkL_post S n (all_strs _) t⟩)
          · exact t.elim
      · split at t
        · rename_i kvs ek
          obtain ⟨a, o, hk, rfl, e1, c, en, rr⟩ := rp_dct S r1 ek
          have rd : Rd H a (.dK hk) := by
            rcases core_dK c with rfl | ⟨ob, rfl⟩
            · exact .inl e1
            · exact .inr ⟨ob, e1⟩
          split at t
          · rename_i is ei
            obtain ⟨l, t⟩ := post_ite t
            exact .inr (.inr (.inl ⟨a, hk, is, rfl, rd, en.trans (keys_ints ei), l, fun ys p h1 h2 n => by rw [sortI_eq h1 h2]; exact mkL_post S n (all_ints _) t⟩))
          · split at t
            · rename_i ss es
              obtain ⟨l, t⟩ := post_ite t
              exact .inr (.inr (.inr ⟨a, hk, ss, rfl, rd, en.trans (keys_strs es), l, fun ys p h1 h2 n => by rw [sortS_eq h1 h2]; exact mkL_post S n (all_strs _) t⟩))
            · exact t.elim
        · exact t.elim
  · exact t.elim
theorem call_allU (hc : X.calm = true := by rfl) (hK : X.K = K := by rfl) : CallR X (.builtin "all") (rAll K) := by subst hK; exact cr_all hc
theorem call_anyU (hc : X.calm = true := by rfl) (hK : X.K = K := by rfl) : CallR X (.builtin "any") (rAny K) := by subst hK; exact cr_any hc
theorem sim_all : SimC K CA (rAll K) (fAllB false) := by
  intro W σ m h H xs ds Q' S r t
  unfold fAllB at t
  split at t
  · split at t
    · rename_i xs e
      split at t
      · rename_i bs eb
        cases r with
        | cons r1 r2 =>
          cases r2
          obtain ⟨a, ys, rfl, e1, rr⟩ := rp_lst S r1 e
          obtain ⟨q1, q2⟩ := rp_bls rr eb
          subst q1
          exact ⟨a, bs, rfl, .of e1, t.here S (.bl _)⟩
      · exact t.elim
    · exact t.elim
  · exact t.elim
theorem sim_any : SimC K CA (rAny K) (fAllB true) := by
  intro W σ m h H xs ds Q' S r t
  unfold fAllB at t
  split at t
  · split at t
    · rename_i xs e
      split at t
      · rename_i bs eb
        cases r with
        | cons r1 r2 =>
          cases r2
          obtain ⟨a, ys, rfl, e1, rr⟩ := rp_lst S r1 e
          obtain ⟨q1, q2⟩ := rp_bls rr eb
          subst q1
          exact ⟨a, bs, rfl, .of e1, t.here S (.bl _)⟩
      · exact t.elim
    · exact t.elim
  · exact t.elim
/-! ### - e -/
theorem we_neg (x : WE X K CA W e ha ta) : WE X K CA W (.UnaryOp .USub e pos) (tUn (rU fun i => .int (-i)) ha) (dUn fNeg ta) :=
  ⟨pe_un un_neg x.pe, fun m h H σ ρ Q' S t => x.sim m h H σ ρ _ S (t.bind fun d h1 m1 v H1 s1 S1 r1 t1 => by
    unfold fNeg at t1
    split at t1
    · cases r1; exact ⟨_, rfl, t1.here S1 (.int _)⟩
    · exact t1.elim)⟩
end
/-- where the modules' dict stands, no list stands -/
def SM (base : Heap) : Prop := ∃ o es ep, base.get? sysModules = some o ∧ o.data = .dict es ep
/-! ### the end of a law -/
def LawF (F : FD) : Prop := ∀ ns : List Int, ns.length ≤ 63 → ∃ h, F [.scr ns] CH.emp = .ok (.bl true) h
theorem law_end {P : Program} {w : World} {K : PySem.W.Frag} {CA : CAs} {mg mb : Str → Option Value} {k : Nat} {fa a : Addr} {fd : FuncData} {sh : Shared} {vs : List Value} {ns : List Int} {F : FD} (kin : K.In sh.heap) (gl : sh.heap.Ns mainGlobals mg) (bl : sh.heap.Ns builtinsNs mb)
    (blt : ∀ x : Str, x ≠ "__name__" → mb x = bootBuiltins x) (nl : sh.heap.NoLimit) (gens : sh.gens = #[]) (ha : sh.heap.get? a = some { cls := .type "list", data := .seq vs.toArray }) (hi : IntsAre vs ns) (hl : ns.length ≤ 63) (hr : Room k callerA) (hF : LawF F) (sm : SM sh.heap) (t0 : CA.T = [])
    (G : ∀ base : Heap, K.In base → base.Ns mainGlobals mg → SM base → FnG P w K mg base true k fa fd ["_law_script"] (spD K CA 1 F)) (bind : ∀ (s : Shared) (u : Value), BindsTo s fd ⟨[u], []⟩ [("_law_script", u)]) :
    codeAny (model P w) callerA (.call (.ref fa) ⟨[.ref a], []⟩) (fun r s' => r = .ok (.ret (.bool true)) ∧ OldK sh.heap s'.heap ∧ s'.os = sh.os ∧ AllBare s'.gens) sh := by
  have rv := vals_ints hi
  have hv := hi.length
  have m0 : Mp := ⟨fun _ => 0, []⟩
  suffices main : ∀ H : Hp, (∀ b, H b = none ∨ (b = a ∧ ∃ o xs, H b = some (.frz o (.lst xs)))) → Rp K CA ⟨fun _ => 0, []⟩ CH.emp H (.ref a) (.scr ns) → HOk P w H sh.heap → (H a ≠ none → K.lookup a = none) →
      codeAny (model P w) callerA (.call (.ref fa) ⟨[.ref a], []⟩) (fun r s' => r = .ok (.ret (.bool true)) ∧ OldK sh.heap s'.heap ∧ s'.os = sh.os ∧ AllBare s'.gens) sh by
    have nlive : ∀ b, ¬ Live ⟨fun _ => 0, []⟩ CH.emp b := fun b z => by
      rcases z with ⟨k, o, e, _⟩ | z
      · cases e
      · cases z
    cases hk : K.lookup a with
    | some o =>
      have e := kin a o hk
      rw [ha] at e
      cases e
      refine main (fun _ => none) (fun _ => .inl rfl) (.kscr (.inr ⟨_, vs.toArray, _, hk, rfl, rfl, rfl, ?_, by simpa using rv⟩)) (fun b u z => ?_) fun z => absurd rfl z
      · rw [List.size_toArray, hv]
        exact Nat.le_trans hl (by decide)
      · cases (show (none : Option HO) = some u from z)
    | none =>
      refine main (fun b => if b = a then some (.frz { cls := .type "list", data := .seq vs.toArray } (.lst (ns.map V.int))) else none) (fun b => ?_) (.scr (nlive a) (if_pos rfl)) (fun b u z => ?_) fun _ => hk
      · by_cases h : b = a
        · exact .inr ⟨h, _, _, if_pos h⟩
        · exact .inl (if_neg h)
      · by_cases h : b = a
        · cases (if_pos h).symm.trans z
          subst h
          exact ⟨ha, by rw [List.length_map]; exact Nat.le_trans hl (by decide), vs, _, rv, ha⟩
        · cases (if_neg h).symm.trans z
  intro H only rp hok hK
  have offA : ∀ {b : Addr} {o : Obj}, sh.heap.get? b = some o → (b = a → H a = none) → (hidT sh.heap H).get? b = some o := fun {b o} e n => hidT_get e (by
    rcases only b with h | ⟨h, _⟩
    · exact h
    · subst h; exact n rfl)
  have noDict : ∀ {b : Addr} {o : Obj} {es : Array DictEntry} {ep : Nat}, sh.heap.get? b = some o → o.data = .dict es ep → b = a → H a = none := fun {b o es ep} e d z => by
    subst z
    rw [ha] at e
    cases e
    cases (show Data.seq vs.toArray _ = Data.dict es ep from d)
  have ns' : ∀ {b : Addr} {m : Str → Option Value}, sh.heap.Ns b m → (hidT sh.heap H).Ns b m := fun {b m} ⟨o, es, ep, e, d, r⟩ => ⟨o, es, ep, offA e (noDict e d), d, r⟩
  have kb : K.In (hidT sh.heap H) := fun b o e => offA (kin b o e) fun z => by
    subst z
    by_cases h : H b = none
    · exact h
    · rw [hK h] at e; cases e
  have env : Env0 P w K mg (hidT sh.heap H) callerA [] sh H := ⟨rfl, ⟨kb, ns' gl, ⟨mb, ns' bl, blt⟩, nl.imp fun mc h => ⟨ns' h.1, h.2⟩⟩, fun b o e => of_hidT e, Nat.le_of_eq (hidT_size _ _), trivial, fun b hb => absurd hb List.not_mem_nil, hok, .of_eq gens⟩
  have hR : HR K CA ⟨fun _ => 0, []⟩ CH.emp H := ⟨fun k o e => (nomatch e), fun k j o u e => (nomatch e), fun k o e => (nomatch e), fun a l => (nomatch l), by rw [t0]; exact fun p hp => (nomatch hp)⟩
  have smB : SM (hidT sh.heap H) := by
    obtain ⟨o, es, ep, e, d⟩ := sm
    exact ⟨o, es, ep, offA e (noDict e d), d⟩
  obtain ⟨hf, eF⟩ := hF ns hl
  refine codeAny_mono ((G _ kb (ns' gl) smB).go callerA [] sh H ⟨[.ref a], []⟩ [.ref a] [.ref a] (fun v _ => v = .bl true) (fun _ _ _ => False) (fun _ => rfl) hr env (bind sh (.ref a)) (.cons rfl .nil) ⟨rfl, ⟨fun _ => 0, []⟩, CH.emp, [.scr ns], hR, .cons rp .nil, by
    rw [eF]
    intro m' v H' s S r
    cases r
    rfl⟩) fun r s' h => ?_
  rcases r with e | fl
  · obtain ⟨_, _, _, _, _, _, _, _, _, _, _, _, z⟩ := h
    exact z.elim
  · rcases fl with _ | _ | _ | u
    · exact False.elim h
    · exact False.elim h
    · exact False.elim h
    · obtain ⟨v, H2, os, bare, un, hok2, r2, q⟩ := h
      obtain rfl : v = .bl true := q
      obtain rfl : u = Value.bool true := r2
      refine ⟨rfl, OldK.of_keep fun b o e => ?_, os, bare⟩
      rcases only b with z | ⟨_, ob, xs, z⟩
      · exact un.keep b o e z (fun y => absurd y List.not_mem_nil) (by simp)
      · obtain ⟨e1, _⟩ := hok b _ z
        obtain ⟨e2, _⟩ := hok2 b _ (un.frzs b ob _ z)
        rw [e] at e1
        cases e1
        exact e2
theorem walkG {l : PySem.W.OpenLaw} {k : Nat} {q : Program} {loose : List Str} {XP : (Str → Option Value) → Heap → Prop} {YP : World → Heap → Prop} {d : DefRec} {K : Params → PySem.W.Frag} {F : FD} (hF : LawF F) (hi : importsNone q = true) (hn : l.most = some 63) (hdf : d.params.defaults = []) (hr : Room k callerA)
    (hY : ∀ (w : World) (h : Heap), YP w h → (K w.params).In h)
    (G0 : ∀ (w : World) (mg : Str → Option Value) (fa : Addr) (h : Heap), (K w.params).In h → h.Ns mainGlobals mg → mg d.name = some (.ref fa) → ∃ (fd : FuncData) (CA : CAs), CA.T = [] ∧ (∀ (s : Shared) (u : Value), BindsTo s fd ⟨[u], []⟩ [("_law_script", u)]) ∧
      ∀ base : Heap, (K w.params).In base → base.Ns mainGlobals mg → SM base → FnG l.prog w (K w.params) mg base true k fa fd ["_law_script"] (spD (K w.params) CA 1 F)) : PySem.W.WalkO q loose XP YP l.row.toRowW d [] (fun f vs => PySem.call f vs) := by
  refine Att.attach_call hn hdf fun w s0 s1 mg mb fa o pm cd doc a vs ns G Y _ _ _ hm ha his hl gens => ?_
  obtain ⟨mm, hm2, _⟩ := (G.T.seer hi).mods
  have sm : SM s1.heap := by
    obtain ⟨o, es, ep, e, d, _⟩ := hm2
    exact ⟨o, es, ep, e, d⟩
  obtain ⟨fd, CA, t0, bd, G1⟩ := G0 w mg fa _ (hY w _ Y) G.T.g hm
  exact law_end (hY w _ Y) G.T.g G.T.b G.T.builtins G.T.nolimit gens ha his hl hr hF sm t0 G1 bd
end CM
namespace CM
open PySem PySem.Spec PyProof.Rows L2

theorem boot_lenU : bootBuiltins "len" = some (.builtin "len") := by rfl
theorem boot_isinstanceU : bootBuiltins "isinstance" = some (.builtin "isinstance") := by rfl
theorem boot_minU : bootBuiltins "min" = some (.builtin "min") := by rfl
theorem boot_maxU : bootBuiltins "max" = some (.builtin "max") := by rfl
theorem boot_absU : bootBuiltins "abs" = some (.builtin "abs") := by rfl
theorem boot_reprU : bootBuiltins "repr" = some (.builtin "repr") := by rfl
theorem boot_allU : bootBuiltins "all" = some (.builtin "all") := by rfl
theorem boot_anyU : bootBuiltins "any" = some (.builtin "any") := by rfl
theorem boot_sortedU : bootBuiltins "sorted" = some (.builtin "sorted") := by rfl
theorem boot_intU : bootBuiltins "int" = some (.type "int") := by rfl
theorem boot_boolU : bootBuiltins "bool" = some (.type "bool") := by rfl
theorem boot_strU : bootBuiltins "str" = some (.type "str") := by rfl
theorem boot_tupleU : bootBuiltins "tuple" = some (.type "tuple") := by rfl
theorem boot_listU : bootBuiltins "list" = some (.type "list") := by rfl
theorem boot_dictU : bootBuiltins "dict" = some (.type "dict") := by rfl
theorem call_lenRd {X : Cx} : CallR X (.builtin "len") (fun xs H Q => ∃ a kvs, xs = [V.ref a] ∧ Rd H a (.dK kvs) ∧ Q (.int kvs.length) H) := by
  rintro pins s σ H xs us Q I r ⟨a, kvs, rfl, rd, q⟩
  obtain ⟨u, rfl, ru⟩ := vals1 r
  cases ru
  exact d_len I rd fun t s2 I2 => ⟨V.int kvs.length, H, I2, ⟨t, rfl⟩, q⟩
section
variable {P : Program} {w : World} {K : PySem.W.Frag} {mg : Str → Option Value} {base : Heap} {CA : CAs}
/-- how a def without positional defaults binds, at the function's data -/
theorem KwB.fn {nm qual : Str} {st : Stmt} {f : Addr} {fd : FuncData} {ps : List Str} {n : Nat} {ks : List Str} {src : List Src} (T : Fun K nm qual st f fd) (hc : consts src = [])
    (h : ∀ (kV doc pm : Value) (an : Option Addr) (cdv ct : Value) (us ws : List Value), us.length = n → ws.length = ks.length → bindArgs (PySem.W.fnOf nm qual (defArgs st) (defBody st) (defScope st) .none kV doc pm an cdv ct) ⟨us, ks.zip ws⟩ = pure (ps.zip (pickL us ws src []))) : KwB K CA fd ps n ks src := by
  obtain ⟨c1, o1, k1, d1, p1, a1, v1, t1, s1, rfl, _, _⟩ := T.ex
  exact .of hc fun us ws h1 h2 => h _ _ _ _ _ _ us ws h1 h2
/-- written values, as data -/
theorem WrV.rel : ∀ {u : Value} {d : D}, WrV K u d → ∃ v, RelV v u ∧ ∀ m h H, Rp K CA m h H v d := fun {u d} w => by
  refine WrV.rec (motive_1 := fun u d _ => ∃ v, RelV v u ∧ ∀ m h H, Rp K CA m h H v d) (motive_2 := fun us ds _ => ∃ vs, Vals vs us ∧ ∀ m h H, RpAll K CA m h H vs ds) ?_ ?_ ?_ ?_ ?_ ?_ ?_ w
  · exact fun x t => ⟨.str x, ⟨t, rfl⟩, fun _ _ _ => .str x⟩
  · exact fun x t => ⟨.int x, ⟨t, rfl⟩, fun _ _ _ => .int x⟩
  · exact fun b => ⟨.bl b, rfl, fun _ _ _ => .bl b⟩
  · exact ⟨.non, rfl, fun _ _ _ => .non⟩
  · intro a dd us n sl ds hk _ hl ⟨vs, h1, h2⟩
    exact ⟨.ref a, rfl, fun m h H => .ktup (.inr ⟨_, us.toArray, n, hk, rfl, rfl, by rw [List.size_toArray]; exact hl, by simpa using h1⟩) (h2 m h H)⟩
  · exact ⟨[], .nil, fun _ _ _ => .nil⟩
  · intro u d us ds _ _ ⟨v, h1, h2⟩ ⟨vs, h3, h4⟩
    exact ⟨v :: vs, .cons h1 h3, fun m h H => .cons (h2 m h H) (h4 m h H)⟩
theorem gv_wr {x : Str} {u : Value} {d : D} (h : mg x = some u) (w : WrV K u d) : GV K CA mg x d := by
  obtain ⟨v, h1, h2⟩ := w.rel (CA := CA)
  exact ⟨v, u, h, h1, h2⟩
end
/-! ### isinstance of built-in types -/
def tys : List String := ["NoneType", "bool", "int", "str", "list", "tuple", "dict"]
def ktB : KT := fun a b => match a, b with
  | .b a, .b b => if a ∈ tys ∧ b ∈ tys then some (a == b || (a == "bool" && b == "int")) else none
  | _, _ => none
theorem kitB_tys : ∀ a, a ∈ tys → ∀ b, b ∈ tys → kitB a b = some (a == b || (a == "bool" && b == "int")) := by decide +kernel
theorem ktB_ok {K : PySem.W.Frag} {CA : CAs} : KtOk K CA [] ktB := by
  refine ⟨fun a b r e => ?_, fun c hc => (nomatch hc)⟩
  cases a with
  | b a => cases b with
    | b b =>
      simp only [ktB] at e
      by_cases c : a ∈ tys ∧ b ∈ tys
      · rw [if_pos c] at e
        rw [← e]
        exact kit_ty (kitB_tys a c.1 b c.2)
      · rw [if_neg c] at e; cases e
    | o c => cases e
  | o c => cases e
end CM
/-! == and != of instances whose class has its own == -/
namespace CM
open PySem PySem.Spec PyProof.Rows L2

/-- the two classes' say: the own == at c0, whose reading is F; no exception leaves it -/
def fOwn (c0 : Nat) (nf : Tg → Bool) (own : List Nat) (neg : Bool) (F : FD) : F2 := fun a b h => match objOf h a, tgOf h b with
  | some (c, _), some t => if c = c0 ∧ nf t = true ∧ okTg own t = true then (F [a, b] h).calm fun r h2 => match r with
    | .bl k => .ok (.bl (k != neg)) h2
    | _ => .no
    else .no
  | _, _ => .no
/-- what stands in the written part -/
structure OwnE (P : Program) (w : World) (K : PySem.W.Frag) (mg : Str → Option Value) (base : Heap) (CA : CAs) (c0 : Nat) (nf : Tg → Bool) (k : Nat) (ps : List Str) (F : FD) (f : Addr) (fd : FuncData) : Prop where
  G : FnG P w K mg base false k f fd ps (spD K CA 2 F)
  at_ : PySem.W.findIn K (.ref (CA c0)) "__eq__" = some (some (.ref f))
  ne : PySem.W.findIn K (.ref (CA c0)) "__ne__" = some (some (.builtin "object.__ne__"))
  fn : PySem.W.isFn K (.ref f) = true
  ob : PySem.W.mroIn K (CA c0) (.type "object") = some true
  nf : ∀ t, nf t = true → PySem.W.notFirst K (CA c0) (t.v CA) = true
  bd : Binds K fd ps []
section
open PySem.W
variable {prog : Program} {w : World} {A : Around} {E : Value → Shared → Prop} {s : Shared} {K : Frag} {x C f : Addr} {ox : Obj} {od : Option Obj} {b : Value}
/-- x != b by object.__ne__, which asks the own == -/
theorem ne_try {Q : Option Value → Shared → Prop} (hu : A.units + 1 < cLine) (X : K.In s.heap) (I : InstAt s.heap x ox C od) (hn : findIn K (.ref C) "__ne__" = some (some (.builtin "object.__ne__"))) (he : findIn K (.ref C) "__eq__" = some (some (.ref f))) (hf : isFn K (.ref f) = true)
    (hm : mroIn K C (.type "object") = some true) (h : wpAny (model prog w) A.in1 (call (.ref f) [.ref x, b]) (fun v s' => ∃ k, v = .bool k ∧ Q (some (.bool (!k))) s') E s) :
    wpAny (model prog w) A (tryCompare (.ref x) "__ne__" b) Q E s := by
  have FB := PySem.F.cmp_object
  have sub : Looks (model prog w) s.heap (isInstance (.ref x) (.type "object")) true := I.type.andThen (looks_mroIn X hm)
  have inner : wpAny (model prog w) A (call (.builtin "object.__ne__") [.ref x, b]) (fun v s' => ∃ k, v = .bool k ∧ Q (some (.bool k)) s') E s := by
    refine wpAny_call (codeAny_call_builtin FB.ne.plain PySem.F.cmpEntry_ne (@check_slot (model prog w) _ _ s "object.__ne__" "object" "__ne__" (.ref x) [b] [] _ PySem.F.cmpKind_ne PySem.F.cmpSplit_ne sub (PySem.F.cmpArgs_ne (.ref x) b) ?_))
    have body : ∀ {Qf : Fin → Shared → Prop}, wpAny (model prog w) A.in1 (call (.ref f) [.ref x, b]) (fun v s' => ∃ k, v = .bool k ∧ Qf (.done (.ret (.bool (!k)))) s') E s → wpAny (model prog w) A.in1 (Builtin.«object.__ne__» ⟨[.ref x, b], []⟩) Qf E s := by
      intro Qf hc
      unfold Builtin.«object.__ne__»
      repeat (first
        | with_reducible refine wpAny_cRoomFor hu ?_
        | (refine wpAny_bind (m := callSpecialIfBound? (.ref x) (Str.ofString "__eq__") [b])
            (ifBound_K X I he hf (wpAny_mono hc (fun r s' hr => by
              obtain ⟨k, rfl, hq⟩ := hr
              repeat (first | exact hq | exact wpAny_pure hq | exact wpAny_truthy_bool hq | (refine wpAny_bind (m := truthy (.bool _)) (wpAny_truthy_bool ?_)) | wp_step)) fun _ _ e => e)))
        | wp_step)
    exact body (wpAny_mono h (fun v s' ⟨k, e, q⟩ => ⟨k, e, ⟨!k, rfl, q⟩⟩) fun _ _ e => e)
  unfold tryCompare
  have fin : wpAny (model prog w) A (call (.builtin "object.__ne__") ([.ref x] ++ [b]) >>= fun v => pure (some v)) (fun r s' => ∃ k, r = some (.bool k) ∧ Q (some (.bool k)) s') E s :=
    wpAny_bind (wpAny_mono inner (fun v s' ⟨k, e, q⟩ => wpAny_pure ⟨k, by rw [e], q⟩) fun _ _ e => e)
  refine wpAny_bind ?_
  show wpAny _ _ (callSpecialIfBound? (.ref x) "__ne__" [b]) _ _ _
  simp only [callSpecialIfBound?, bindSpecialIfBound?]
  refine wpAny_holding (wpAny_bind (wpAny_bind (wpAny_bind (I.type.here ((looks_findIn X hn).here ?_)))))
  refine wpAny_bind (wpAny_askSetting (wpAny_ite ?_))
  rw [FB.ne.bind]
  split
  · refine wpAny_bind (wpAny_pure (wpAny_pure ?_))
    refine wpAny_mono fin (fun r s' ⟨k, e, q⟩ => ?_) fun _ _ e => e
    subst e
    exact wpAny_pure q
  · refine wpAny_tryCatch (wpAny_bind (wpAny_pure (wpAny_pure ?_)))
    refine wpAny_mono fin (fun r s' ⟨k, e, q⟩ => ?_) fun _ _ e => e
    subst e
    exact wpAny_pure q
theorem ne_K {tb : Value} {Q : Value → Shared → Prop} (hu : A.units + 1 < cLine) (X : K.In s.heap) (I : InstAt s.heap x ox C od) (hb : Looks (model prog w) s.heap (typeOf b) tb) (hn : notFirst K C tb = true)
    (hne : findIn K (.ref C) "__ne__" = some (some (.builtin "object.__ne__"))) (he : findIn K (.ref C) "__eq__" = some (some (.ref f))) (hf : isFn K (.ref f) = true) (hm : mroIn K C (.type "object") = some true)
    (h : wpAny (model prog w) A.in1 (call (.ref f) [.ref x, b]) (fun v s' => ∃ k, v = .bool k ∧ Q (.bool (!k)) s') E s) : wpAny (model prog w) A (richCompare .NotEq (.ref x) b) Q E s := by
  have one : wpAny (model prog w) A (tryCompare (.ref x) (cmpInfo .NotEq).2.1 b) (fun r s' => ∃ v, r = some v ∧ Q v s') E s :=
    ne_try (Q := fun r s' => ∃ v, r = some v ∧ Q v s') hu X I hne he hf hm (wpAny_mono h (fun v s' ⟨k, e, q⟩ => ⟨k, e, _, rfl, q⟩) fun _ _ e => e)
  unfold richCompare
  simp only [oneThing_ref]
  refine wpAny_holding (wpAny_bind (wpAny_cRoomFor (Nat.lt_of_succ_lt hu) ?_))
  refine wpAny_bind (I.type.here (wpAny_bind (hb.here ?_)))
  split
  · rename_i q
    have e : subIn K tb (.ref C) = some false := by
      rcases Bool.or_eq_true_iff.mp hn with e | e
      · rw [beq_iff_eq.mp e] at q; simp at q
      · exact beq_iff_eq.mp e
    refine wpAny_bind ((looks_subIn X e).here ?_)
    simp only [Bool.false_eq_true, if_false]
    refine wpAny_bind (wpAny_mono one (fun r s' z => ?_) fun _ _ e => e)
    obtain ⟨v, rfl, hq⟩ := z
    exact wpAny_pure hq
  · refine wpAny_bind (wpAny_pure ?_)
    simp only [Bool.false_eq_true, if_false]
    refine wpAny_bind (wpAny_mono one (fun r s' z => ?_) fun _ _ e => e)
    obtain ⟨v, rfl, hq⟩ := z
    exact wpAny_pure hq
end
/-- the reading at the heap -/
def rOwn (K : PySem.W.Frag) (CA : CAs) (c0 : Nat) (nf : Tg → Bool) (neg : Bool) (F : FD) : R2 := fun x y H Q => ∃ a dx fs t, x = .ref a ∧ H a = some (.ins (CA c0) dx fs) ∧ TyX K H y (Tg.v CA t) ∧ nf t = true ∧
  ∃ (m : Mp) (h : CH) (d1 d2 : D), HR K CA m h H ∧ RpAll K CA m h H [x, y] [d1, d2] ∧ PostE K CA (wxD L2.E0) m h H [] (fun v H2 => ∃ k, v = .bl k ∧ Q (.bl (k != neg)) H2) (noxF F [d1, d2] h)
section
variable {X : Cx} {K : PySem.W.Frag} {CA : CAs} {W : WX} {c0 k : Nat} {nf : Tg → Bool} {own : List Nat} {kt : KT} {F : FD} {f : Addr} {fd : FuncData} {ps : List Str} {neg : Bool}
theorem post_nox {E : XK} {m : Mp} {h : CH} {H : Hp} {σ : L2.St} {Q : VK} {r : R D} (t : PostE K CA W m h H σ Q (r.calm fun d h => .ok d h)) : PostE K CA (wxD E) m h H [] Q r := by
  cases r with
  | ok d h' => exact t
  | ex c fs h' => exact t.elim
  | no => exact t.elim
theorem sim_own (kk : KtOk K CA own kt) : SimR K CA (rOwn K CA c0 nf neg F) (fOwn c0 nf own neg F) := by
  intro W σ m h H x y dx dy Q' S rx ry t
  unfold fOwn at t
  split at t
  · rename_i c fs tg e1 e2
    obtain ⟨⟨ec, hn, ok⟩, t2⟩ := post_ite t
    clear t
    subst ec
    obtain ⟨a, da, hf, rfl, q1, _, _⟩ := rp_obj S rx e1
    refine ⟨a, da, hf, tg, rfl, q1, rp_tg kk S ry e2 ok, hn, m, h, dx, dy, S, .cons rx (.cons ry .nil), ?_⟩
    cases ef : F [dx, dy] h with
    | no => rw [ef] at t2; exact t2.elim
    | ex c fs h' => rw [ef] at t2; exact t2.elim
    | ok d h' =>
      rw [ef] at t2
      show PostE K CA (wxD L2.E0) m h H [] _ ((F [dx, dy] h).calm fun d h => .ok d h)
      rw [ef]
      intro m' v H' s' S' rv
      cases d with
      | bl k =>
        cases rv
        exact ⟨k, rfl, t2 m' _ H' s' S' (.bl _)⟩
      | _ => exact t2.elim
  · exact t.elim
theorem op_ownEq (O : OwnE X.prog X.w X.K X.mg X.base CA c0 nf k ps F f fd) (hr : Room (k + 1) X.A) (hl : ps.length = 2) (hK : X.K = K := by rfl) : OpR X (compareOp .Eq) (rOwn K CA c0 nf false F) := by
  subst hK
  intro pins s σ H x y v u Q I rx ry h
  obtain ⟨a, dx, fs, t, rfl, ha, ty, hn, m, ch, d1, d2, hR, rr, q⟩ := h
  obtain rfl : v = Value.ref a := rx
  obtain ⟨mA, J, _⟩ := ins_get I.hok ha
  obtain ⟨od, J, _⟩ := J.look
  obtain ⟨P, kx, hP, _⟩ := kit_of I ry ty
  obtain ⟨mf, hF⟩ := I.fr
  show wpAny _ _ (richCompare .Eq (Value.ref a) u) _ _ _
  refine PySem.W.cmp_K (op := .Eq) (tb := Tg.v CA t) (by have := hr.un; omega) hF I.ok.mod.kin J (kx.ty _ _ I.kIn hP) (O.nf t hn) O.at_ O.fn ?_
  have r2 : Vals [V.ref a, y] [Value.ref a, u] := .cons rfl (.cons ry .nil)
  have bd := O.bd s [.ref a, u] I.kIn (by rw [hl]; rfl)
  rw [List.append_nil] at bd
  refine wpAny_call (codeAny_mono (O.G.go X.A X.stack s H ⟨[.ref a, u], []⟩ [.ref a, u] [.ref a, y] _ L2.E0 (fun z => nomatch z) (hr.mono (Nat.le_succ _)) I.env0 bd r2 ⟨rfl, m, ch, [d1, d2], hR, rr, post_nox q⟩) fun r s' hq => ?_)
  rcases r with er | fl
  · obtain ⟨_, _, _, _, _, _, _, _, _, _, _, _, z⟩ := hq
    exact z.elim
  · rcases fl with _ | _ | _ | z
    · exact False.elim hq
    · exact False.elim hq
    · exact False.elim hq
    · obtain ⟨v', H', I3, rv, b, ev, q3⟩ := I.after hq
      subst ev
      cases rv
      cases b
      · exact ⟨.bl false, H', I3, rfl, q3⟩
      · exact ⟨.bl true, H', I3, rfl, q3⟩
theorem op_ownNe (O : OwnE X.prog X.w X.K X.mg X.base CA c0 nf k ps F f fd) (hr : Room (k + 1) X.A) (hl : ps.length = 2) (hK : X.K = K := by rfl) : OpR X (compareOp .NotEq) (rOwn K CA c0 nf true F) := by
  subst hK
  intro pins s σ H x y v u Q I rx ry h
  obtain ⟨a, dx, fs, t, rfl, ha, ty, hn, m, ch, d1, d2, hR, rr, q⟩ := h
  obtain rfl : v = Value.ref a := rx
  obtain ⟨mA, J, _⟩ := ins_get I.hok ha
  obtain ⟨od, J, _⟩ := J.look
  obtain ⟨P, kx, hP, _⟩ := kit_of I ry ty
  obtain ⟨mf, hF⟩ := I.fr
  show wpAny _ _ (richCompare .NotEq (Value.ref a) u) _ _ _
  refine ne_K (by have := hr.un; omega) I.kIn J (kx.ty _ _ I.kIn hP) (O.nf t hn) O.ne O.at_ O.fn O.ob ?_
  have r2 : Vals [V.ref a, y] [Value.ref a, u] := .cons rfl (.cons ry .nil)
  have bd := O.bd s [.ref a, u] I.kIn (by rw [hl]; rfl)
  rw [List.append_nil] at bd
  refine wpAny_call (codeAny_mono (O.G.go X.A.in1 X.stack s H ⟨[.ref a, u], []⟩ [.ref a, u] [.ref a, y] _ L2.E0 (fun z => nomatch z) hr.in1 I.env0.in1 bd r2 ⟨rfl, m, ch, [d1, d2], hR, rr, post_nox q⟩) fun r s' hq => ?_)
  rcases r with er | fl
  · obtain ⟨_, _, _, _, _, _, _, _, _, _, _, _, z⟩ := hq
    exact z.elim
  · rcases fl with _ | _ | _ | z
    · exact False.elim hq
    · exact False.elim hq
    · exact False.elim hq
    · obtain ⟨v', H', I3, rv, b, ev, q3⟩ := I.after hq
      subst ev
      cases rv
      refine ⟨b, rfl, ?_⟩
      cases b
      · exact ⟨.bl true, H', I3, rfl, q3⟩
      · exact ⟨.bl false, H', I3, rfl, q3⟩
end
end CM
/-! len(set(texts)), sorted(set(ints)) -/
namespace CM
open PySem PySem.Spec PyProof.Rows L2

/-- an empty set as set.__new__ lays it -/
abbrev eSet (w : World) : Obj := { cls := .type "set", dict := none, data := .set #[] 0 (.fresh 0 0 (!w.params.followText "set-order")) }
/-- the different ones, as they are met -/
def ded (l : List Str) : List Str := l.foldl (fun acc x => if x ∈ acc then acc else acc ++ [x]) []
theorem ded_snoc (l : List Str) (x : Str) : ded (l ++ [x]) = if x ∈ ded l then ded l else ded l ++ [x] := by
  unfold ded
  rw [List.foldl_append]
  rfl
theorem mem_ded (l : List Str) : ∀ x, x ∈ ded l ↔ x ∈ l := by
  intro x
  have key : ∀ (l acc : List Str), x ∈ l.foldl (fun acc x => if x ∈ acc then acc else acc ++ [x]) acc ↔ x ∈ acc ∨ x ∈ l := by
    intro l
    induction l with
    | nil => intro acc; simp
    | cons y l ih =>
      intro acc
      rw [List.foldl_cons, ih]
      split
      · rename_i h
        constructor
        · rintro (a | a)
          · exact .inl a
          · exact .inr (List.mem_cons_of_mem _ a)
        · rintro (a | a)
          · exact .inl a
          · rcases List.mem_cons.mp a with e | e
            · subst e; exact .inl h
            · exact .inr e
      · rw [List.mem_append, List.mem_singleton, List.mem_cons, or_assoc]
  have := key l []
  simpa [ded] using this
theorem ded_le (l : List Str) : (ded l).length ≤ l.length := by
  have key : ∀ (l acc : List Str), (l.foldl (fun acc x => if x ∈ acc then acc else acc ++ [x]) acc).length ≤ acc.length + l.length := by
    intro l
    induction l with
    | nil => intro acc; simp
    | cons y l ih =>
      intro acc
      rw [List.foldl_cons]
      refine Nat.le_trans (ih _) ?_
      split <;> simp <;> omega
  have := key l []
  simpa [ded] using this
section
variable {P : Program} {w : World} {A : Around} {R : Result → Shared → Prop} {I : Addr} {fp wr : List Addr} {G : Array GenState → Array GenState → Prop} {n : Nat} {Pv : Nat → Value → Prop} {St : Nat → Shared → Prop}
/-- the texts are added one by one -/
theorem fill_texts (Wk : WalksS P w A.in1 I fp wr G n Pv St) (D : Addr) (nf : D ∉ fp) (zs : List Str) (nz : n = zs.length) (room : zs.length + 1 < scanBound) (vals : ∀ i v, Pv i v → ∃ k t, zs[i]? = some k ∧ v = .str k t) :
    ∀ (k i : Nat) (s : Shared), n - i = k → i ≤ n → St i s → s.heap.SetOf (PySem.strKind P w) D (fun z => decide (z ∈ ded (zs.take i))) (ded (zs.take i)).length →
      (∀ s', Moved (D :: wr) G s s' → s'.heap.SetOf (PySem.strKind P w) D (fun z => decide (z ∈ ded zs)) (ded zs).length → R (.ok (.ret .none)) s') →
      codeAny (model P w) A (.builtin "set.update.loop" ⟨[.ref D, .ref I], []⟩) R s := by
  have nw : D ∉ wr := fun h => nf (Wk.sub _ h)
  have up1 : ∀ b ∈ wr, b ∈ D :: wr := fun b h => List.mem_cons_of_mem _ h
  intro k
  induction k with
  | zero =>
    intro i s hk li st hS fin
    obtain rfl : i = n := by omega
    refine codeAny_builtin PyProof.Rows.F.entry_set_update_loop ?_
    rw [Around.under_plainId PyProof.Rows.F.plain_set_update_loop _]
    show wpAny _ A.in1 (pyNext (.ref I) >>= _) _ _ s
    refine wpAny_bind (Wk.done s _ _ st fun s2 mv => ?_)
    show wpAny _ A.in1 (ret Value.none) _ _ s2
    rw [List.take_of_length_le (show zs.length ≤ i by omega)] at hS
    obtain ⟨o, es, ep, tb, ho, more⟩ := hS
    exact wpAny_pure (fin s2 (mv.mono up1) ⟨o, es, ep, tb, mv.heap D _ nw ho, more⟩)
  | succ k ih =>
    intro i s hk li st hS fin
    have lt : i < n := by omega
    refine codeAny_builtin PyProof.Rows.F.entry_set_update_loop ?_
    rw [Around.under_plainId PyProof.Rows.F.plain_set_update_loop _]
    show wpAny _ A.in1 (pyNext (.ref I) >>= _) _ _ s
    refine wpAny_bind (Wk.item i s _ _ lt st fun v s2 hv st2 mv => ?_)
    obtain ⟨z, t, ez, rfl⟩ := vals i v hv
    have hS2 : s2.heap.SetOf (PySem.strKind P w) D (fun z => decide (z ∈ ded (zs.take i))) (ded (zs.take i)).length := by
      obtain ⟨o, es, ep, tb, ho, more⟩ := hS
      exact ⟨o, es, ep, tb, mv.heap D _ nw ho, more⟩
    show wpAny _ A.in1 (holding [Value.str z t] (setAdd D (.str z t)) >>= _) _ _ s2
    refine wpAny_bind (wpAny_holding ?_)
    unfold setAdd
    refine wpAny_holding ?_
    refine wpAny_bind ((PySem.strKind P w).pyHash (k := z) (strKind_is _ _ _ _) ?_)
    have small : (ded (zs.take i)).length ≤ zs.length := Nat.le_trans (ded_le _) (by rw [List.length_take]; omega)
    refine wpAny_setAddHashed_of (knd := PySem.strKind P w) (s := { s2 with toks := s2.toks + 1 }) (strKind_is _ _ _ _) rfl hS2 (by omega) fun h3 sb hS3 => ?_
    have e1 : zs.take (i + 1) = zs.take i ++ [z] := by rw [List.take_add_one, ez]; rfl
    have hS4 : h3.SetOf (PySem.strKind P w) D (fun z => decide (z ∈ ded (zs.take (i + 1)))) (ded (zs.take (i + 1))).length := by
      refine SetOf_congr hS3 (fun y => ?_) ?_
      · rw [e1, ded_snoc]
        by_cases c : z ∈ ded (zs.take i)
        · rw [if_pos c]
          by_cases d : y = z
          · subst d; simp [c]
          · simp [d]
        · rw [if_neg c]
          simp [List.mem_append]
      · rw [e1, ded_snoc]
        by_cases c : z ∈ ded (zs.take i) <;> simp [c]
    refine wpAny_pure ⟨plainId_quiet PyProof.Rows.F.plain_set_update_loop _, ih (i + 1) _ (by omega) lt (Wk.frame _ s2 _ _ st2 (Nat.le_succ _) fun b hb o e => ?_) hS4 fun s5 mv5 hS5 => ?_⟩
    · exact (sb.2 b (fun z => nf (z ▸ hb))).trans e
    · exact fin s5 (Moved.trans Wk.gtrans ((mv.mono up1).then_heap (Nat.le_succ _) fun b o hb e => (sb.2 b (fun z => hb (z ▸ List.mem_cons_self))).trans e) mv5) hS5
end
section
variable {P : Program} {w : World} {A : Around} {E : Value → Shared → Prop} {s : Shared}
/-- set(x), x a list: whatever the filling makes sure of -/
theorem set_by_list {l : Addr} {its : Array Value} {Post : Heap → Prop} {Q : Value → Shared → Prop} (calm : A.handled = none) (hl : s.heap.IsList l its)
    (fill : ∀ (R : Result → Shared → Prop) (I : Addr) (St : Nat → Shared → Prop) (s1 : Shared), s.heap.objs.size ∉ [I, l] → WalksS P w A.in1.in1.in1 I [I, l] [I] (fun a b => b = a) its.size (fun i v => its[i]? = some v) St → St 0 s1 →
      s1.heap.get? s.heap.objs.size = some (eSet w) → (∀ s2, Moved [s.heap.objs.size, I] (fun a b => b = a) s1 s2 → Post s2.heap → R (.ok (.ret .none)) s2) → codeAny (model P w) A.in1.in1 (.builtin "set.update.loop" ⟨[.ref s.heap.objs.size, .ref I], []⟩) R s1)
    (done : ∀ (h2 : Heap) (tk : Nat), Post h2 → (∀ b o, s.heap.get? b = some o → h2.get? b = some o) → Q (.ref s.heap.objs.size) { s with heap := h2, toks := tk }) :
    wpAny (model P w) A (call (.type "set") [.ref l]) Q E s := by
  obtain ⟨_, _, f_mro⟩ := PySem.F.called_set.mro
  have f_made := PySem.F.called_set.made
  have f_sub := PySem.F.called_set.sub
  refine wpAny_call (codeAny_of_tree ?_)
  show wpAny _ _ (callAny (.type "set") _) _ _ _
  refine wpAny_pure ⟨Code.quiet_builtin _ (by decide +kernel), codeAny_builtin PySem.F.entry_type_call ?_⟩
  rw [Around.under_plain (weight_type_call_type "set" [.ref l] []) rfl]
  have f_1 := PySem.F.called_set.notType
  have f_2 := PySem.F.called_set.canCreate
  have f_3 := PySem.F.typeCall_set_1 (.ref l)
  repeat any_goals (first | assumption | wp_step)

  refine codeAny_mono (code_set_led1 (.ref l) (E := E) (Q₁ := fun ob s1 => ob = .ref s.heap.objs.size ∧ s1 = { s with heap := s.heap.push (eSet w) }) ⟨rfl, rfl⟩) fun r s1 hr => ?_
  rcases r with e | fl
  · exact hr
  · rcases fl with _ | _ | _ | ob
    · exact hr.elim
    · exact hr.elim
    · exact hr.elim
    · obtain ⟨rfl, rfl⟩ := hr
      have atS : (s.heap.push (eSet w)).get? s.heap.objs.size = some (eSet w) := Heap.get?_push_size _ rfl
      have tyS : Shared.TypeIs { s with heap := s.heap.push (eSet w) } (.ref s.heap.objs.size) "set" := ⟨_, atS, rfl⟩
      have f_4 := PySem.F.called_set.init.lookup
      have f_5 := PySem.F.called_set.init.bind (.ref s.heap.objs.size)
      repeat any_goals (first | assumption | wp_step)

      refine codeAny_mono (codeAny_call_builtin (R := wants (fun r s2 => r = .none ∧ ∃ h2 tk, s2 = { s with heap := h2, toks := tk } ∧ Post h2 ∧ (∀ b o, s.heap.get? b = some o → h2.get? b = some o)) E)
        PySem.F.called_set.init.plain PySem.F.entry_set_init (check_set_init_1 tyS ?_)) fun r2 s2 hr2 => ?_
      · obtain ⟨ol, look, ec, nl, ed⟩ := hl
        obtain ⟨oc, od, oda, osl⟩ := ol
        dsimp only at ec ed
        subst ec ed
        have look2 : (s.heap.push (eSet w)).get? l = some { cls := .type "list", dict := od, data := .seq its nl, slots := osl } := Heap.get?_push_of_some _ look
        have f_6 := PySem.F.sub_list_set
        have f_7 := PySem.F.sub_list_frozenset
        have f_8 : (Value.type "list" == Value.type "dict") = false := by decide
        have is2 : (s.heap.push (eSet w)).IsList l its := ⟨_, look2, rfl, nl, rfl⟩
        unfold Builtin.«set.__init__» noKeywords Builtin.Frozenset.updateFrom
        generalize ePI : pyIter = PI
        wp_walk
        subst ePI
        refine wpAny_pyIter_list is2 ?_
        refine wpAny_bind (wpAny_runValue ?_)
        have lts : l < s.heap.objs.size := Heap.lt_size look
        have calm3 : A.in1.in1.in1.handled = none := by simp [calm]
        have sz : (s.heap.push (eSet w)).objs.size = s.heap.objs.size + 1 := Heap.size_push ..
        have neI : l ≠ (s.heap.push (eSet w)).objs.size := by rw [sz]; exact Nat.ne_of_lt (Nat.lt_succ_of_lt lts)
        have nin : s.heap.objs.size ∉ [(s.heap.push (eSet w)).objs.size, l] := by
          rw [sz]
          intro z
          rcases List.mem_cons.mp z with z | z
          · exact absurd z (Nat.ne_of_lt (Nat.lt_succ_self _))
          · exact absurd (List.mem_singleton.mp z) (Nat.ne_of_gt lts)
        refine fill _ _ _ _ nin ((Walks.list calm3 _ l neI its).toS) ⟨⟨_, Heap.get?_push_size _ rfl, rfl, rfl⟩, is2.push _⟩ (Heap.get?_push_of_some _ atS) fun s3 mv p3 => ?_
        obtain ⟨h3, g3, d3, tk3, os3⟩ := s3
        obtain rfl : g3 = s.gens := mv.gens
        obtain rfl : d3 = s.drawn := mv.drawn
        obtain rfl : os3 = s.os := mv.os
        show wpAny _ _ _ _ _ _
        refine wpAny_pure ?_
        show wpAny _ _ (ret Value.none) _ _ _
        refine wpAny_pure ⟨rfl, h3, tk3, rfl, p3, fun b o e => ?_⟩
        have ltb := Heap.lt_size e
        refine mv.heap b o (fun z => ?_) (Heap.get?_push_of_some _ (Heap.get?_push_of_some _ e))
        rcases List.mem_cons.mp z with z | z
        · exact absurd z (Nat.ne_of_lt ltb)
        · exact absurd (List.mem_singleton.mp z) (by rw [sz]; exact Nat.ne_of_lt (Nat.lt_succ_of_lt ltb))
      · rcases r2 with e | fl2
        · exact hr2
        · rcases fl2 with _ | _ | _ | u
          · exact hr2.elim
          · exact hr2.elim
          · exact hr2.elim
          · obtain ⟨rfl, h2, tk, rfl, p2, k2⟩ := hr2
            repeat any_goals (first | assumption | wp_step)
            exact done _ _ p2 k2
/-- set(x), x a tuple: whatever the filling makes sure of -/
theorem set_by_tuple {l : Addr} {its : Array Value} {Post : Heap → Prop} {Q : Value → Shared → Prop} (calm : A.handled = none) (hl : s.heap.IsTuple l its)
    (fill : ∀ (R : Result → Shared → Prop) (I : Addr) (St : Nat → Shared → Prop) (s1 : Shared), s.heap.objs.size ∉ [I, l] → WalksS P w A.in1.in1.in1 I [I, l] [I] (fun a b => b = a) its.size (fun i v => its[i]? = some v) St → St 0 s1 →
      s1.heap.get? s.heap.objs.size = some (eSet w) → (∀ s2, Moved [s.heap.objs.size, I] (fun a b => b = a) s1 s2 → Post s2.heap → R (.ok (.ret .none)) s2) → codeAny (model P w) A.in1.in1 (.builtin "set.update.loop" ⟨[.ref s.heap.objs.size, .ref I], []⟩) R s1)
    (done : ∀ (h2 : Heap) (tk : Nat), Post h2 → (∀ b o, s.heap.get? b = some o → h2.get? b = some o) → Q (.ref s.heap.objs.size) { s with heap := h2, toks := tk }) :
    wpAny (model P w) A (call (.type "set") [.ref l]) Q E s := by
  obtain ⟨_, _, f_mro⟩ := PySem.F.called_set.mro
  have f_made := PySem.F.called_set.made
  have f_sub := PySem.F.called_set.sub
  refine wpAny_call (codeAny_of_tree ?_)
  show wpAny _ _ (callAny (.type "set") _) _ _ _
  refine wpAny_pure ⟨Code.quiet_builtin _ (by decide +kernel), codeAny_builtin PySem.F.entry_type_call ?_⟩
  rw [Around.under_plain (weight_type_call_type "set" [.ref l] []) rfl]
  have f_1 := PySem.F.called_set.notType
  have f_2 := PySem.F.called_set.canCreate
  have f_3 := PySem.F.typeCall_set_1 (.ref l)
  repeat any_goals (first | assumption | wp_step)

  refine codeAny_mono (code_set_led1 (.ref l) (E := E) (Q₁ := fun ob s1 => ob = .ref s.heap.objs.size ∧ s1 = { s with heap := s.heap.push (eSet w) }) ⟨rfl, rfl⟩) fun r s1 hr => ?_
  rcases r with e | fl
  · exact hr
  · rcases fl with _ | _ | _ | ob
    · exact hr.elim
    · exact hr.elim
    · exact hr.elim
    · obtain ⟨rfl, rfl⟩ := hr
      have atS : (s.heap.push (eSet w)).get? s.heap.objs.size = some (eSet w) := Heap.get?_push_size _ rfl
      have tyS : Shared.TypeIs { s with heap := s.heap.push (eSet w) } (.ref s.heap.objs.size) "set" := ⟨_, atS, rfl⟩
      have f_4 := PySem.F.called_set.init.lookup
      have f_5 := PySem.F.called_set.init.bind (.ref s.heap.objs.size)
      repeat any_goals (first | assumption | wp_step)

      refine codeAny_mono (codeAny_call_builtin (R := wants (fun r s2 => r = .none ∧ ∃ h2 tk, s2 = { s with heap := h2, toks := tk } ∧ Post h2 ∧ (∀ b o, s.heap.get? b = some o → h2.get? b = some o)) E)
        PySem.F.called_set.init.plain PySem.F.entry_set_init (check_set_init_1 tyS ?_)) fun r2 s2 hr2 => ?_
      · obtain ⟨ol, look, ec, nl, ed⟩ := hl
        obtain ⟨oc, od, oda, osl⟩ := ol
        dsimp only at ec ed
        subst ec ed
        have look2 : (s.heap.push (eSet w)).get? l = some { cls := .type "tuple", dict := od, data := .seq its nl, slots := osl } := Heap.get?_push_of_some _ look
        have f_6 := PySem.F.sub_tuple_set
        have f_7 := PySem.F.sub_tuple_frozenset
        have f_8 : (Value.type "tuple" == Value.type "dict") = false := by decide
        have is2 : (s.heap.push (eSet w)).IsTuple l its := ⟨_, look2, rfl, nl, rfl⟩
        unfold Builtin.«set.__init__» noKeywords Builtin.Frozenset.updateFrom
        generalize ePI : pyIter = PI
        wp_walk
        subst ePI
        refine wpAny_pyIter_tuple is2 ?_
        refine wpAny_bind (wpAny_runValue ?_)
        have lts : l < s.heap.objs.size := Heap.lt_size look
        have calm3 : A.in1.in1.in1.handled = none := by simp [calm]
        have sz : (s.heap.push (eSet w)).objs.size = s.heap.objs.size + 1 := Heap.size_push ..
        have neI : l ≠ (s.heap.push (eSet w)).objs.size := by rw [sz]; exact Nat.ne_of_lt (Nat.lt_succ_of_lt lts)
        have nin : s.heap.objs.size ∉ [(s.heap.push (eSet w)).objs.size, l] := by
          rw [sz]
          intro z
          rcases List.mem_cons.mp z with z | z
          · exact absurd z (Nat.ne_of_lt (Nat.lt_succ_self _))
          · exact absurd (List.mem_singleton.mp z) (Nat.ne_of_gt lts)
        refine fill _ _ _ _ nin ((Walks.tuple calm3 _ l neI its).toS) ⟨⟨_, Heap.get?_push_size _ rfl, rfl, rfl⟩, is2.push _⟩ (Heap.get?_push_of_some _ atS) fun s3 mv p3 => ?_
        obtain ⟨h3, g3, d3, tk3, os3⟩ := s3
        obtain rfl : g3 = s.gens := mv.gens
        obtain rfl : d3 = s.drawn := mv.drawn
        obtain rfl : os3 = s.os := mv.os
        show wpAny _ _ _ _ _ _
        refine wpAny_pure ?_
        show wpAny _ _ (ret Value.none) _ _ _
        refine wpAny_pure ⟨rfl, h3, tk3, rfl, p3, fun b o e => ?_⟩
        have ltb := Heap.lt_size e
        refine mv.heap b o (fun z => ?_) (Heap.get?_push_of_some _ (Heap.get?_push_of_some _ e))
        rcases List.mem_cons.mp z with z | z
        · exact absurd z (Nat.ne_of_lt ltb)
        · exact absurd (List.mem_singleton.mp z) (by rw [sz]; exact Nat.ne_of_lt (Nat.lt_succ_of_lt ltb))
      · rcases r2 with e | fl2
        · exact hr2
        · rcases fl2 with _ | _ | _ | u
          · exact hr2.elim
          · exact hr2.elim
          · exact hr2.elim
          · obtain ⟨rfl, h2, tk, rfl, p2, k2⟩ := hr2
            repeat any_goals (first | assumption | wp_step)
            exact done _ _ p2 k2
end
end CM

namespace CM
open PySem PySem.Spec PyProof.Rows L2

/-! ### sorted of a list or a tuple, below 64 -/
def rSortQ (K : PySem.W.Frag) : List V → Hp → VK → Prop := fun xs H Q => ∃ a ys, xs = [V.ref a] ∧ (SqL K H a ys ∨ SqT K H a ys) ∧
  ((∃ ns : List Int, ys = ns.map V.int ∧ ns.length < 64 ∧ ∀ (l : List Int) (p : Addr), l.Perm ns → l.Pairwise (· ≤ ·) → H p = none → Q (.ref p) (upd H p (.lst (l.map V.int)))) ∨
    (∃ ss : List Str, ys = ss.map V.str ∧ ss.length < 64 ∧ ∀ (l : List Str) (p : Addr), l.Perm ss → sortedS l = true → H p = none → Q (.ref p) (upd H p (.lst (l.map V.str)))))
section
variable {X : Cx} {K : PySem.W.Frag} {CA : CAs}
theorem cr_sortQ (hK : X.K = K := by rfl) : CallR X (.builtin "sorted") (rSortQ K) := by
  subst hK
  intro pins s σ H vs us Q I r hq
  obtain ⟨a, ys, rfl, hs, hq⟩ := hq
  rw [Vals.ref1 r]
  obtain ⟨T, o, its, n, hT, ho, hc, hd, rv, hz⟩ : ∃ (T : String) (o : Obj) (its : List Value) (n : Nat), (T = "list" ∨ T = "tuple") ∧ s.heap.get? a = some o ∧ o.cls = .type T ∧ o.data = .seq its.toArray n ∧ Vals ys its ∧ its.length ≤ sizeLine := by
    rcases hs with hs | hs
    · obtain ⟨its, rv, pl, hz⟩ := I.list hs
      obtain ⟨o, ho, hc, n, hd⟩ := pl.isList
      exact ⟨"list", o, its, n, .inl rfl, ho, hc, hd, rv, by rw [← rv.length]; exact hz⟩
    · obtain ⟨its, rv, pl, hz⟩ := I.tuple hs
      obtain ⟨o, ho, hc, n, hd⟩ := pl
      exact ⟨"tuple", o, its, n, .inr rfl, ho, hc, hd, rv, by rw [← rv.length]; exact hz⟩
  refine Calls.call_function_entry PyProof.Rows.kind_sorted PyProof.Rows.plain_sorted PyProof.Rows.entry_sorted (PyProof.Rows.args_sorted1 _) ?_
  unfold Builtin.«sorted»
  refine wpAny_bind (m := checkCount "sorted" 1 1 _) (wpAny_pure ?_)
  refine wpAny_bind (wpAny_collect_seq a hT ho hc hd (fun h1 kp => ?_) (by rw [List.size_toArray]; exact hz))
  have I1 : Inv X pins σ H { s with heap := h1, toks := s.toks } := I.kept kp
  show wpAny _ _ _ _ _ { s with heap := h1, toks := s.toks }
  rw [List.toList_toArray]
  refine wpAny_bind (wpAny_newList ?_ hz)
  have atL : (h1.push (seqObj "list" its.toArray 0)).get? h1.objs.size = some (seqObj "list" its.toArray 0) := Heap.get?_push_size _ rfl
  have keepL : ∀ {out : Array Value} (b : Addr) (u : Obj), h1.get? b = some u → (PyProof.Rows.sortedHeap (h1.push (seqObj "list" its.toArray 0)) h1.objs.size its out).get? b = some u := fun {out} b u e => by
    have lt := Heap.lt_size e
    rw [PyProof.Rows.sortedHeap_old (Nat.ne_of_lt lt) (by rw [size_push']; exact Nat.lt_succ_of_lt lt)]
    exact Heap.get?_push_of_some _ e
  rcases hq with ⟨ns, ey, l64, q⟩ | ⟨ss, ey, l64, q⟩
  · subst ey
    have hi := rv.ints
    have le := rv.length
    rw [List.length_map] at le
    refine wpAny_bind (wpAny_holding (wpAny_call_entry PyProof.Rows.slot_list_sort ⟨_, atL, rfl⟩ PyProof.Rows.entry_list_sort
      (list_sort_tree (s := { s with heap := h1.push (seqObj "list" its.toArray 0), toks := s.toks }) atL hi (by rw [← le]; exact l64) fun out ns' g1 g2 g3 => ⟨_, rfl, ?_⟩) (PyProof.Rows.args_list_sort _)))
    obtain ⟨ep, hp⟩ := PyProof.Rows.sortedHeap_at (vs := its) (out := out) atL
    refine wpAny_pure ⟨_, rfl, .ref h1.objs.size, upd H h1.objs.size (.lst (ns'.map V.int)), I1.laid (t' := s.toks) keepL (Nat.le_refl _)
      (show ObjOk X.prog X.w _ _ _ (.lst (ns'.map V.int)) from ⟨by rw [List.length_map, g2.length_eq]; exact Nat.le_trans (Nat.le_of_lt l64) (by decide), out.toList, ep, vals_of_ints g1, by rw [Array.toArray_toList]; exact hp⟩), rfl, q ns' _ g2 g3 (I1.hok.fresh (Nat.le_refl _))⟩
  · subst ey
    have hi := rv.strs
    have le := rv.length
    rw [List.length_map] at le
    refine wpAny_bind (wpAny_holding (wpAny_call_entry PyProof.Rows.slot_list_sort ⟨_, atL, rfl⟩ PyProof.Rows.entry_list_sort
      (list_sort_treeK strKind_oneLt (s := { s with heap := h1.push (seqObj "list" its.toArray 0), toks := s.toks }) atL hi.keysOf (fun v1 v2 rest e => keyKind_strs (by rw [← e]; exact hi)) (by rw [← le]; exact l64) fun st g1 g2 => ⟨_, rfl, ?_⟩) (PyProof.Rows.args_list_sort _)))
    obtain ⟨l, g3, g4, g5⟩ := sorted_out_str hi g1 g2
    obtain ⟨ep, hp⟩ := PyProof.Rows.sortedHeap_at (vs := its) (out := (arrOf st).map (·.2)) atL
    refine wpAny_pure ⟨_, rfl, .ref h1.objs.size, upd H h1.objs.size (.lst (l.map V.str)), I1.laid (t' := s.toks) keepL (Nat.le_refl _)
      (show ObjOk X.prog X.w _ _ _ (.lst (l.map V.str)) from ⟨by rw [List.length_map, g4.length_eq]; exact Nat.le_trans (Nat.le_of_lt l64) (by decide), ((arrOf st).map (·.2)).toList, ep, vals_of_strs g3, by rw [Array.toArray_toList]; exact hp⟩), rfl, q l _ g4 g5 (I1.hok.fresh (Nat.le_refl _))⟩
def fSrt (nm : Bool) : FD := fun ds h => match ds with
  | [d] => match seqOf h d with
    | some xs => match intsOf xs with
      | some is => if is.length < 64 then mkL nm ((sortI is).map D.int) h else fSort nm ds h
      | none => match strsOf xs with
        | some ss => if ss.length < 64 then mkL nm ((sortS ss).map D.str) h else .no
        | none => .no
    | none => fSort nm ds h
  | _ => .no
theorem call_srt (hc : X.calm = true := by rfl) (hK : X.K = K := by rfl) : CallR X (.builtin "sorted") (fun xs H Q => rSrt K xs H Q ∨ rSortQ K xs H Q) := (call_sortU hc hK).or (cr_sortQ hK)
theorem sim_srt {nm : Bool} : SimC K CA (fun xs H Q => rSrt K xs H Q ∨ rSortQ K xs H Q) (fSrt nm) := by
  intro W σ m h H xs ds Q' S r t
  unfold fSrt at t
  split at t
  · rename_i d
    split at t
    · rename_i ys e
      obtain ⟨v, rfl⟩ : ∃ v, xs = [v] := by cases r with | cons r1 r2 => cases r2; exact ⟨_, rfl⟩
      have r1 : Rp K CA m h H v d := by cases r with | cons r1 r2 => exact r1
      obtain ⟨a, zs, rfl, e1, rr⟩ := rp_seq S r1 e
      split at t
      · rename_i is ei
        by_cases c : is.length < 64
        · rw [if_pos c] at t
          obtain ⟨q1, q2⟩ := rp_ints rr ei
          exact .inr ⟨a, zs, rfl, e1, .inl ⟨is, q1, c, fun l p h1 h2 n => by rw [sortI_eq h1 h2]; exact mkL_post S n (all_ints _) t⟩⟩
        · rw [if_neg c] at t
          exact .inl (sim_sort W σ m h H _ _ Q' S r t)
      · split at t
        · rename_i ss es
          obtain ⟨l64, t⟩ := post_ite t
          obtain ⟨q1, q2⟩ := rp_strs rr es
          exact .inr ⟨a, zs, rfl, e1, .inr ⟨ss, q1, l64, fun l p h1 h2 n => by rw [sortS_eq h1 h2]; exact mkL_post S n (all_strs _) t⟩⟩
        · exact t.elim
    · exact .inl (sim_sort W σ m h H _ _ Q' S r t)
  · exact t.elim
end
/-! ### len(set(texts)) -/
def fLenS : F1 := fun d h => match seqOf h d with
  | some xs => match strsOf xs with
    | some ss => if ss.length < 1000 then .ok (.int (ded ss).length) h else .no
    | none => .no
  | none => .no
def tLenS (K : PySem.W.Frag) (ta : TE) : TE := fun σ H Q => ta σ H fun x H1 => ∃ a ss, x = V.ref a ∧ (SqL K H1 a (ss.map V.str) ∨ SqT K H1 a (ss.map V.str)) ∧ ss.length < 1000 ∧ Q (.int (ded ss).length) H1
section
variable {X : Cx} {K : PySem.W.Frag} {CA : CAs} {W : WX} {e : Expr} {p p2 q pos : Pos} {ha : TE} {ta : TD}
theorem vals_of {ss : List Str} {its : List Value} (hi : StrsAre its ss) : ∀ (i : Nat) (v : Value), its.toArray[i]? = some v → ∃ k t, ss[i]? = some k ∧ v = .str k t := fun i v hv => by
  have hv' : its[i]? = some v := by simpa using hv
  obtain ⟨t, e⟩ := SS.strs_at hi i v hv'
  have lt : i < ss.length := by
    rw [← StrsAre.len_eq hi]
    exact (List.getElem?_eq_some_iff.mp hv').1
  refine ⟨ss[i], t, List.getElem?_eq_getElem lt, ?_⟩
  rw [e, List.getD_eq_getElem?_getD, List.getElem?_eq_getElem lt]
  rfl
theorem pe_lenS (hc : X.calm = true) (hg : Gl X "len") (hm : X.mg "len" = none) (hg2 : Gl X "set") (hm2 : X.mg "set" = none) (ha' : PE X e ha) (hK : X.K = K := by rfl)
    (na : starEach [e] X.env = (false, eval e X.env) :: starEach [] X.env := by rfl) : PE X (.Call (.Name "len" p) [.Call (.Name "set" p2) [e] [] q] [] pos) (tLenS K ha) := by
  subst hK
  refine ⟨fun pins s σ H Q I h => ?_⟩
  refine Call_ (ld_blt I hg hm boot_len ?_)
  refine PyProof.Rows.callWith_builtin1 (PyProof.Rows.args_cons ?_ rfl) rfl rfl
  refine Call_ (ld_blt I hg2 hm2 boot_set ?_)
  refine PyProof.Rows.callWith_type1 (PyProof.Rows.args_cons (thn (ha'.run pins s σ H _ I h) fun v s1 ⟨x, H1, I1, r1, q1⟩ => PyProof.Rows.args_nil ?_) na) na rfl
  obtain ⟨a, ss, rfl, hs, l3, q2⟩ := q1
  cases r1
  have room : ss.length + 1 < scanBound := by unfold scanBound; omega
  have last : ∀ (h2 : Heap) (tk : Nat), h2.SetOf (PySem.strKind X.prog X.w) s1.heap.objs.size (fun z => decide (z ∈ ded ss)) (ded ss).length → (∀ b o, s1.heap.get? b = some o → h2.get? b = some o) →
      wpAny (model X.prog X.w) X.A (spliced (backTo pos (starEach [] X.env))) (fun vs s₂ => wpAny (model X.prog X.w) X.A (call (.builtin "len") (Value.ref s1.heap.objs.size :: vs)) (EP X pins σ Q) X.xe s₂) X.xe { s1 with heap := h2, toks := tk } := fun h2 tk hS kp => by
    refine PyProof.Rows.args_nil ?_
    obtain ⟨o, es, ep, t, ho, hex, hd, _, _, _, hf, hn⟩ := hS
    have I2 : Inv X pins σ H1 { s1 with heap := h2, toks := tk } := I1.kept kp
    have := ded_le ss
    exact call_len_set ho hex hd hf (by rw [hn]; omega) ⟨.int (ded ss).length, H1, I2.tok _, ⟨_, by rw [hn]⟩, q2⟩
  have fill : ∀ {its : List Value} (hi : StrsAre its ss) (R : Result → Shared → Prop) (I : Addr) (St : Nat → Shared → Prop) (s2 : Shared), s1.heap.objs.size ∉ [I, a] → WalksS X.prog X.w X.A.in1.in1.in1 I [I, a] [I] (fun a b => b = a) its.toArray.size (fun i v => its.toArray[i]? = some v) St → St 0 s2 →
      s2.heap.get? s1.heap.objs.size = some (eSet X.w) → (∀ s3, Moved [s1.heap.objs.size, I] (fun a b => b = a) s2 s3 → s3.heap.SetOf (PySem.strKind X.prog X.w) s1.heap.objs.size (fun z => decide (z ∈ ded ss)) (ded ss).length → R (.ok (.ret .none)) s3) →
      codeAny (model X.prog X.w) X.A.in1.in1 (.builtin "set.update.loop" ⟨[.ref s1.heap.objs.size, .ref I], []⟩) R s2 := fun {its} hi R I St s2 nin Wk st at0 fin =>
    fill_texts Wk _ nin ss (by rw [List.size_toArray]; exact StrsAre.len_eq hi) room (vals_of hi) _ 0 s2 rfl (Nat.zero_le _) st
      (SetOf_congr ((setObjOf_fresh (knd := PySem.strKind X.prog X.w) _).setOf at0 (by unfold scanBound; omega)) (fun z => by simp [ded]) (by simp [ded])) fun s3 mv hS => fin s3 mv hS
  rcases hs with hs | hs
  · obtain ⟨its, rv, pl, hz⟩ := I1.list hs
    exact set_by_list (I1.ok.hd hc) pl.isList (fill rv.strs) last
  · obtain ⟨its, rv, pl, hz⟩ := I1.tuple hs
    exact set_by_tuple (I1.ok.hd hc) pl (fill rv.strs) last
theorem we_lenS (x : WE X K CA W e ha ta) (hm : X.mg "len" = none) (hm2 : X.mg "set" = none) (hc : X.calm = true := by rfl) (hg : Gl X "len" := by rfl) (hg2 : Gl X "set" := by rfl) (hK : X.K = K := by rfl)
    (na : starEach [e] X.env = (false, eval e X.env) :: starEach [] X.env := by rfl) : WE X K CA W (.Call (.Name "len" p) [.Call (.Name "set" p2) [e] [] q] [] pos) (tLenS K ha) (dUn fLenS ta) :=
  ⟨pe_lenS hc hg hm hg2 hm2 x.pe hK na, fun m h H σ ρ Q' S t => x.sim m h H σ ρ _ S (t.bind fun d h1 m1 v H1 s1 S1 r1 t1 => by
    unfold fLenS at t1
    split at t1
    · rename_i xs e
      split at t1
      · rename_i ss es
        obtain ⟨l3, t2⟩ := post_ite t1
        obtain ⟨a, zs, rfl, e1, rr⟩ := rp_seq S1 r1 e
        obtain ⟨q1, q2⟩ := rp_strs rr es
        subst q1
        exact ⟨a, ss, rfl, e1, l3, t2.here S1 (.int _)⟩
      · exact t1.elim
    · exact t1.elim)⟩
end
/-! ### sorted(set(ints)) -/
/-- the different ones, ascending -/
def insU (x : Int) : List Int → List Int
  | [] => [x]
  | y :: r => if x < y then x :: y :: r else if x = y then y :: r else y :: insU x r
def sortU : List Int → List Int
  | [] => []
  | x :: r => insU x (sortU r)
theorem mem_insU (x z : Int) : ∀ l, z ∈ insU x l ↔ z = x ∨ z ∈ l
  | [] => by simp [insU]
  | y :: r => by
    unfold insU
    split
    · simp
    · split
      · rename_i e
        subst e
        simp
      · rw [List.mem_cons, mem_insU x z r, List.mem_cons]
        constructor
        · rintro (a | a | a)
          · exact .inr (.inl a)
          · exact .inl a
          · exact .inr (.inr a)
        · rintro (a | a | a)
          · exact .inr (.inl a)
          · exact .inl a
          · exact .inr (.inr a)
theorem mem_sortU (z : Int) : ∀ l, z ∈ sortU l ↔ z ∈ l
  | [] => by simp [sortU]
  | x :: r => by rw [sortU, mem_insU, mem_sortU z r, List.mem_cons]
theorem insU_lt (x : Int) : ∀ l : List Int, l.Pairwise (· < ·) → (insU x l).Pairwise (· < ·)
  | [], _ => by simp [insU]
  | y :: r, h => by
    unfold insU
    have h' := List.pairwise_cons.mp h
    split
    · rename_i c
      refine List.pairwise_cons.mpr ⟨fun z hz => ?_, h⟩
      rcases List.mem_cons.mp hz with e | e
      · omega
      · have := h'.1 z e; omega
    · split
      · exact h
      · refine List.pairwise_cons.mpr ⟨fun z hz => ?_, insU_lt x r h'.2⟩
        rcases (mem_insU x z r).mp hz with e | e
        · omega
        · exact h'.1 z e
theorem sortU_lt : ∀ l : List Int, (sortU l).Pairwise (· < ·)
  | [] => .nil
  | x :: r => insU_lt x _ (sortU_lt r)
theorem lt_same : ∀ {l l' : List Int}, l.Pairwise (· < ·) → l'.Pairwise (· < ·) → (∀ z, z ∈ l ↔ z ∈ l') → l = l'
  | [], [], _, _, _ => rfl
  | [], y :: r, _, _, e => by have := (e y).mpr (List.mem_cons_self ..); cases this
  | y :: r, [], _, _, e => by have := (e y).mp (List.mem_cons_self ..); cases this
  | x :: r, y :: t, h1, h2, e => by
    have a1 := List.pairwise_cons.mp h1
    have a2 := List.pairwise_cons.mp h2
    have exy : x = y := by
      rcases List.mem_cons.mp ((e x).mp (List.mem_cons_self ..)) with z | z
      · exact z
      · rcases List.mem_cons.mp ((e y).mpr (List.mem_cons_self ..)) with u | u
        · exact u.symm
        · have := a2.1 x z; have := a1.1 y u; omega
    subst exy
    rw [lt_same a1.2 a2.2 fun z => ?_]
    constructor
    · intro hz
      rcases List.mem_cons.mp ((e z).mp (List.mem_cons_of_mem _ hz)) with u | u
      · have := a1.1 z hz; omega
      · exact u
    · intro hz
      rcases List.mem_cons.mp ((e z).mpr (List.mem_cons_of_mem _ hz)) with u | u
      · have := a2.1 z hz; omega
      · exact u
def fSortSet (nm : Bool) : F1 := fun d h => match seqOf h d with
  | some xs => match intsOf xs with
    | some is => if is.length < 64 then mkL nm ((sortU is).map D.int) h else .no
    | none => .no
  | none => .no
def tSortSet (K : PySem.W.Frag) (ta : TE) : TE := fun σ H Q => ta σ H fun x H1 => ∃ a ns, x = V.ref a ∧ (SqL K H1 a (ns.map V.int) ∨ SqT K H1 a (ns.map V.int)) ∧ ns.length < 64 ∧ ∀ p, H1 p = none → Q (.ref p) (upd H1 p (.lst ((sortU ns).map V.int)))
section
variable {X : Cx} {K : PySem.W.Frag} {CA : CAs} {W : WX} {e : Expr} {p p2 q pos : Pos} {ha : TE} {ta : TD}
theorem valsI_of {ns : List Int} {its : List Value} (hi : IntsAre its ns) : ∀ (i : Nat) (v : Value), its.toArray[i]? = some v → ∃ k t, ns[i]? = some k ∧ v = .int k t := fun i v hv => by
  have hv' : its[i]? = some v := by simpa using hv
  obtain ⟨t, e⟩ := PyProof.Rows.IntsAre.int_at hi i v hv'
  have lt : i < ns.length := by
    rw [← IntsAre.length hi]
    exact (List.getElem?_eq_some_iff.mp hv').1
  refine ⟨ns[i], t, List.getElem?_eq_getElem lt, ?_⟩
  rw [e, List.getD_eq_getElem?_getD, List.getElem?_eq_getElem lt]
  rfl
theorem pe_sortSet (hc : X.calm = true) (hg : Gl X "sorted") (hm : X.mg "sorted" = none) (hg2 : Gl X "set") (hm2 : X.mg "set" = none) (ha' : PE X e ha) (hK : X.K = K := by rfl)
    (na : starEach [e] X.env = (false, eval e X.env) :: starEach [] X.env := by rfl) : PE X (.Call (.Name "sorted" p) [.Call (.Name "set" p2) [e] [] q] [] pos) (tSortSet K ha) := by
  subst hK
  refine ⟨fun pins s σ H Q I h => ?_⟩
  refine Call_ (ld_blt I hg hm boot_sortedU ?_)
  refine PyProof.Rows.callWith_builtin1 (PyProof.Rows.args_cons ?_ rfl) rfl rfl
  refine Call_ (ld_blt I hg2 hm2 boot_set ?_)
  refine PyProof.Rows.callWith_type1 (PyProof.Rows.args_cons (thn (ha'.run pins s σ H _ I h) fun v s1 ⟨x, H1, I1, r1, q1⟩ => PyProof.Rows.args_nil ?_) na) na rfl
  obtain ⟨a, ns, rfl, hs, l3, q2⟩ := q1
  cases r1
  have room : ns.length + 1 < scanBound := by unfold scanBound; omega
  have last : ∀ (h2 : Heap) (tk : Nat), (∃ c, c ≤ ns.length ∧ SetR X.w h2 s1.heap.objs.size (fun j => decide (j ∈ ns)) c) → (∀ b o, s1.heap.get? b = some o → h2.get? b = some o) →
      wpAny (model X.prog X.w) X.A (spliced (backTo pos (starEach [] X.env))) (fun vs s₂ => wpAny (model X.prog X.w) X.A (call (.builtin "sorted") (Value.ref s1.heap.objs.size :: vs)) (EP X pins σ Q) X.xe s₂) X.xe { s1 with heap := h2, toks := tk } := fun h2 tk ⟨c, lc, R⟩ kp => by
    refine PyProof.Rows.args_nil ?_
    have I2 : Inv X pins σ H1 { s1 with heap := h2, toks := tk } := I1.kept kp
    refine sorted_set (P := X.prog) R (I1.ok.hd hc) (by omega) fun s3 pp out cc l k3 g3 o3 lp atp isI pw mem len => ?_
    have el : l = sortU ns := lt_same pw (sortU_lt ns) fun z => by rw [mem, mem_sortU]; simp
    have nP := I2.hok.fresh lp
    have lz : (l.map V.int).length ≤ sizeLine := by rw [List.length_map, len]; exact Nat.le_trans lc (Nat.le_trans (Nat.le_of_lt l3) (by decide))
    have I3 : Inv X pins σ (upd H1 pp (.lst (l.map V.int))) s3 :=
      I2.call' (ch := []) o3 (Un.laid k3 lp nP) (I2.hok.laid k3 lp ⟨lz, out.toList, cc, vals_of_ints isI, by rw [Array.toArray_toList]; exact atp⟩) (by rw [g3]; exact I2.bare) (fun _ z => nomatch z)
    subst el
    exact ⟨.ref pp, _, I3, rfl, q2 pp (I2.hok.fresh lp)⟩
  have fill : ∀ {its : List Value} (hi : IntsAre its ns) (R : Result → Shared → Prop) (I : Addr) (St : Nat → Shared → Prop) (s2 : Shared), s1.heap.objs.size ∉ [I, a] → WalksS X.prog X.w X.A.in1.in1.in1 I [I, a] [I] (fun a b => b = a) its.toArray.size (fun i v => its.toArray[i]? = some v) St → St 0 s2 →
      s2.heap.get? s1.heap.objs.size = some (eSet X.w) → (∀ s3, Moved [s1.heap.objs.size, I] (fun a b => b = a) s2 s3 → (∃ c, c ≤ ns.length ∧ SetR X.w s3.heap s1.heap.objs.size (fun j => decide (j ∈ ns)) c) → R (.ok (.ret .none)) s3) →
      codeAny (model X.prog X.w) X.A.in1.in1 (.builtin "set.update.loop" ⟨[.ref s1.heap.objs.size, .ref I], []⟩) R s2 := fun {its} hi R I St s2 nin Wk st at0 fin => by
    have en : its.toArray.size = ns.length := by rw [List.size_toArray]; exact IntsAre.length hi
    exact set_update_ints Wk _ nin ns en room (valsI_of hi) _ 0 s2 rfl (Nat.zero_le _) st ⟨0, Nat.le_refl _, setR_new_at at0⟩ fun s3 c mv lc hS => fin s3 mv ⟨c, by rw [← en]; exact lc, hS⟩
  rcases hs with hs | hs
  · obtain ⟨its, rv, pl, hz⟩ := I1.list hs
    exact set_by_list (I1.ok.hd hc) pl.isList (fill rv.ints) last
  · obtain ⟨its, rv, pl, hz⟩ := I1.tuple hs
    exact set_by_tuple (I1.ok.hd hc) pl (fill rv.ints) last
theorem we_sortSet (nm : Bool) (x : WE X K CA W e ha ta) (hm : X.mg "sorted" = none) (hm2 : X.mg "set" = none) (hc : X.calm = true := by rfl) (hg : Gl X "sorted" := by rfl) (hg2 : Gl X "set" := by rfl) (hK : X.K = K := by rfl)
    (na : starEach [e] X.env = (false, eval e X.env) :: starEach [] X.env := by rfl) : WE X K CA W (.Call (.Name "sorted" p) [.Call (.Name "set" p2) [e] [] q] [] pos) (tSortSet K ha) (dUn (fSortSet nm) ta) :=
  ⟨pe_sortSet hc hg hm hg2 hm2 x.pe hK na, fun m h H σ ρ Q' S t => x.sim m h H σ ρ _ S (t.bind fun d h1 m1 v H1 s1 S1 r1 t1 => by
    unfold fSortSet at t1
    split at t1
    · rename_i xs e
      split at t1
      · rename_i ss es
        obtain ⟨l3, t2⟩ := post_ite t1
        obtain ⟨a, zs, rfl, e1, rr⟩ := rp_seq S1 r1 e
        obtain ⟨q1, q2⟩ := rp_ints rr es
        subst q1
        exact ⟨a, ss, rfl, e1, l3, fun p n => mkL_post S1 n (all_ints _) t2⟩
      · exact t1.elim
    · exact t1.elim)⟩
end
end CM
/-! what the generated texts use besides -/
namespace CM
open PySem PySem.Spec PyProof.Rows L2

theorem noG {p : Prop} : (false = true) → p := fun z => nomatch z
theorem pick_cons (d : D) (ds zs : List D) : ∀ (n i : Nat), pickD (d :: ds) zs (srcP (i + 1) n) = pickD ds zs (srcP i n)
  | 0, _ => rfl
  | n + 1, i => by
    show (d :: ds).getD (i + 1) .non :: pickD (d :: ds) zs (srcP (i + 1 + 1) n) = ds.getD i .non :: pickD ds zs (srcP (i + 1) n)
    rw [pick_cons d ds zs n (i + 1)]
    rfl
theorem pick_srcP (zs : List D) : ∀ ds : List D, pickD ds zs (srcP 0 ds.length) = ds
  | [] => rfl
  | d :: ds => by
    show (d :: ds).getD 0 .non :: pickD (d :: ds) zs (srcP 1 ds.length) = d :: ds
    rw [pick_cons, pick_srcP zs ds]
    rfl
theorem srcP_length : ∀ (n i : Nat), (srcP i n).length = n
  | 0, _ => rfl
  | n + 1, i => by rw [srcP, List.length_cons, srcP_length n]
section
variable {X : Cx} {K : PySem.W.Frag} {CA : CAs} {W : WX} {e : Expr} {es : List Expr} {pos p : Pos} {hs : TA} {ts : TDs} {x : Str} {g : Bool} {k : Nat} {ps : List Str} {F : FD} {f : Addr} {fd : FuncData}
/-- f(e, ..), all that there are -/
theorem we_callP (D : Df X.prog X.w X.K X.mg X.base CA x g k ps F f fd) (hG : g = true → X.A.guards = some []) (hr : Room k X.A) (tk' : Takes X W) (h : WA X K CA W (e :: es) hs ts) (B : KwB K CA fd ps ps.length [] (srcP 0 ps.length)) (hg : Gl X x := by rfl) (hK : X.K = K := by rfl)
    (hdb : (x == ("__debug__" : Str)) = false := by decide) (he : starEach (e :: es) X.env = (false, eval e X.env) :: starEach es X.env := by rfl) (hpl : (backTo pos (starEach es X.env)).any (·.1) = false := by rfl) :
    WE X K CA W (.Call (.Name x p) (e :: es) [] pos) (tCallN K CA W ps.length 0 (fun ds _ => F ds) hs L2.tNil) (dCall ps.length F ts) := by
  subst hK
  refine ⟨⟨fun pins s σ H Q I hq => wpAny_Call_Name_kw (ld_glob I hg D.hm ?_ hdb)⟩, sim_call h.sim⟩
  refine PySem.W.callWith_K (h₀ := X.base) I.ok.mod.kin D.hk (thn (h.pe.run pos pins s σ H _ I hq) fun us s1 ⟨vs, H1, I1, r, l1, l2, m, h, ds, es, hR, rd, re, q⟩ => ⟨I1.kIn, ?_⟩) he hpl
  refine run_callN (ws := []) D.G hG hr B tk' I1 r .nil l1 l2 hR rd re (srcP_length _ _) ?_
  have e : pickD ds es (srcP 0 ps.length) = ds := by rw [← l1, rd.length]; exact pick_srcP es ds
  rw [e]
  exact q
end
/-! ### classes, by one look -/
def clsB (K : PySem.W.Frag) (C : Addr) : Bool :=
  PySem.W.plainGet K C Str.empty && (PySem.W.hasDictIn K C && (PySem.W.plainOver K C && (decide (PySem.W.findIn K (.ref C) "__setattr__" = some (some (.builtin "object.__setattr__"))) &&
  (decide (PySem.W.findIn K (.ref C) "__class__" = some (some (.builtin "object.__class__"))) && (decide (PySem.W.specialIn K (.builtin "object.__class__") "__get__" = some (some (.builtin "getset_descriptor.__get__"))) &&
  (decide (PySem.W.takesIn K (.builtin "object.__class__") = some true) && decide (PySem.W.mroIn K C (.type "object") = some true)))))))
structure ClsOk (K : PySem.W.Frag) (C : Addr) : Prop where
  cl : Cls K C
  i1 : PySem.W.findIn K (.ref C) "__class__" = some (some (.builtin "object.__class__"))
  i2 : PySem.W.specialIn K (.builtin "object.__class__") "__get__" = some (some (.builtin "getset_descriptor.__get__"))
  i3 : PySem.W.takesIn K (.builtin "object.__class__") = some true
  i4 : PySem.W.mroIn K C (.type "object") = some true
theorem clsB_ok {K : PySem.W.Frag} {C : Addr} (h : clsB K C = true) : ClsOk K C := by
  unfold clsB at h
  simp only [Bool.and_eq_true, decide_eq_true_eq] at h
  obtain ⟨h1, h2, h3, h4, h5, h6, h7, h8⟩ := h
  exact ⟨⟨h1, h2, h3, h4⟩, h5, h6, h7, h8⟩
def noB (K : PySem.W.Frag) (C : Addr) (fs : List Str) : Bool := fs.all fun f => decide (PySem.W.findIn K (.ref C) f = some none)
theorem noB_ok {K : PySem.W.Frag} {C : Addr} {fs : List Str} (h : noB K C fs = true) {f : Str} (hf : f ∈ fs) : NoAttr K C f := by
  have := List.all_eq_true.mp h f hf
  have e : PySem.W.findIn K (.ref C) f = some none := by simpa using this
  exact e
/-! ### isinstance with own classes: sup tells of each own class what it is -/
def ktT (sup : List (List Tg)) (bs : List String) : KT := fun a b => match a, b with
  | .b x, .b y => ktB (.b x) (.b y)
  | .b x, .o d => if x ∈ tys ∧ d < sup.length then some false else none
  | .o c, b => match sup[c]? with
    | some l => if (match b with | .b y => decide (y ∈ bs) | .o d => decide (d < sup.length)) = true then some (decide (b ∈ l)) else none
    | none => none
def ktChk (K : PySem.W.Frag) (CA : CAs) (sup : List (List Tg)) (bs : List String) : Bool :=
  (List.range sup.length).all fun c => (tys.all fun x => decide (PySem.W.kitOne K (.type x) (.ref (CA c)) = some false)) && ((bs.all fun y => decide (PySem.W.kitOne K (.ref (CA c)) (.type y) = some (decide (Tg.b y ∈ sup.getD c [])))) &&
    (List.range sup.length).all fun d => decide (PySem.W.kitOne K (.ref (CA c)) (.ref (CA d)) = some (decide (Tg.o d ∈ sup.getD c []))))
theorem ktT_ok {K : PySem.W.Frag} {CA : CAs} {sup : List (List Tg)} {bs : List String} {own : List Nat} (h : ktChk K CA sup bs = true) (hc : ∀ c, c ∈ own → ClsOk K (CA c)) : KtOk K CA own (ktT sup bs) := by
  have look : ∀ c, c < sup.length → (tys.all fun x => decide (PySem.W.kitOne K (.type x) (.ref (CA c)) = some false)) = true ∧ (bs.all fun y => decide (PySem.W.kitOne K (.ref (CA c)) (.type y) = some (decide (Tg.b y ∈ sup.getD c [])))) = true ∧
      (List.range sup.length).all (fun d => decide (PySem.W.kitOne K (.ref (CA c)) (.ref (CA d)) = some (decide (Tg.o d ∈ sup.getD c [])))) = true := fun c lt => by
    have := List.all_eq_true.mp h c (List.mem_range.mpr lt)
    rw [Bool.and_eq_true, Bool.and_eq_true] at this
    exact ⟨this.1, this.2.1, this.2.2⟩
  refine ⟨fun a b r e => ?_, fun c hm => ⟨(hc c hm).cl, (hc c hm).i1, (hc c hm).i2, (hc c hm).i3, (hc c hm).i4⟩⟩
  cases a with
  | b x =>
    cases b with
    | b y => exact (ktB_ok (K := K) (CA := CA)).one _ _ r e
    | o d =>
      simp only [ktT] at e
      by_cases q : x ∈ tys ∧ d < sup.length
      · rw [if_pos q] at e
        cases e
        exact of_decide_eq_true (List.all_eq_true.mp (look d q.2).1 x q.1)
      · rw [if_neg q] at e; cases e
  | o c =>
    simp only [ktT] at e
    split at e
    · rename_i l el
      have lt : c < sup.length := (List.getElem?_eq_some_iff.mp el).1
      have gl : sup.getD c [] = l := by rw [List.getD_eq_getElem?_getD, el]; rfl
      have lk := look c lt
      rw [gl] at lk
      cases b with
      | b y =>
        by_cases q : y ∈ bs
        · simp only [q, decide_true, if_true] at e
          cases e
          exact of_decide_eq_true (List.all_eq_true.mp lk.2.1 y q)
        · simp [q] at e
      | o d =>
        by_cases q : d < sup.length
        · simp only [q, decide_true, if_true] at e
          cases e
          exact of_decide_eq_true (List.all_eq_true.mp lk.2.2 d (List.mem_range.mpr q))
        · simp [q] at e
    · cases e
/-! ### methods, makes and the like, from what stands in the written part -/
section
variable {P : Program} {w : World} {K : PySem.W.Frag} {mg : Str → Option Value} {base : Heap} {CA : CAs} {c0 k : Nat} {ps : List Str} {F : FD} {f p : Addr} {fd : FuncData} {nm nmf qual : Str} {st : Stmt}
theorem Df.of {g : Bool} (T : Fun K nmf qual st f fd) (G : FnG P w K mg base g k f fd ps (spD K CA ps.length F)) (hm : mg nm = some (.ref f)) : Df P w K mg base CA nm g k ps F f fd := ⟨G, hm, T.kp⟩
theorem Mtd.of {g : Bool} (T : Fun K nmf qual st f fd) (G : FnG P w K mg base g k f fd ps (spD K CA ps.length F)) (cl : ClsOk K (CA c0)) (hm : PySem.W.findIn K (.ref (CA c0)) nm = some (some (.ref f))) (hf : PySem.W.isFn K (.ref f) = true) : Mtd P w K mg base CA c0 nm g k ps F f fd :=
  ⟨G, cl.cl, ⟨hm, hf, T.kp⟩⟩
theorem Mkd.of (T : Fun K nmf qual st f fd) (G : FnG P w K mg base false k f fd ps (spD K CA ps.length F)) (hm : mg nm = some (.ref (CA c0))) (hi : PySem.W.findIn K (.ref (CA c0)) "__init__" = some (some (.ref f))) (hf : PySem.W.isFn K (.ref f) = true) (mk : PySem.W.makesIn K (CA c0) = true) (kp : PySem.W.keepIn K (.ref (CA c0)) = true) :
    Mkd P w K mg base CA c0 nm k ps F f fd := ⟨G, hm, ⟨mk, hi, hf, kp⟩⟩
theorem Prd.of {rest : List Value} (T : Fun K nmf qual st f fd) (G : FnOk P w K mg base L2.CX0 k f fd ps (spD K CA 1 (noxF F))) (cl : ClsOk K (CA c0)) (h1 : PySem.W.findIn K (.ref (CA c0)) nm = some (some (.ref p))) (h2 : PySem.W.specialIn K (.ref p) "__get__" = some (some (.builtin "property.__get__"))) (h3 : PySem.W.takesIn K (.ref p) = some true)
    (h4 : PySem.W.recIn K p "property" = some (.ref f :: rest)) (b : ∀ (kV doc pm : Value) (an : Option Addr) (cdv ct : Value) (us : List Value), us.length = ps.length → bindArgs (PySem.W.fnOf nmf qual (defArgs st) (defBody st) (defScope st) .none kV doc pm an cdv ct) ⟨us, []⟩ = pure (ps.zip us)) :
    Prd P w K mg base CA c0 nm k ps F := ⟨⟨p, f, fd, G, ⟨h1, h2, h3, rest, h4⟩, T.binds b⟩, cl.cl⟩
def nfB (K : PySem.W.Frag) (CA : CAs) (c0 : Nat) (ts : List Tg) : Bool := ts.all fun t => PySem.W.notFirst K (CA c0) (t.v CA)
theorem OwnE.of {ts : List Tg} (T : Fun K nmf qual st f fd) (G : FnG P w K mg base false k f fd ps (spD K CA ps.length F)) (hl : ps.length = 2) (cl : ClsOk K (CA c0)) (hm : PySem.W.findIn K (.ref (CA c0)) "__eq__" = some (some (.ref f))) (hf : PySem.W.isFn K (.ref f) = true)
    (hn : PySem.W.findIn K (.ref (CA c0)) "__ne__" = some (some (.builtin "object.__ne__"))) (hc : nfB K CA c0 ts = true) (b : ∀ (kV doc pm : Value) (an : Option Addr) (cdv ct : Value) (us : List Value), us.length = ps.length → bindArgs (PySem.W.fnOf nmf qual (defArgs st) (defBody st) (defScope st) .none kV doc pm an cdv ct) ⟨us, []⟩ = pure (ps.zip us)) :
    OwnE P w K mg base CA c0 (fun t => decide (t ∈ ts)) k ps F f fd :=
  ⟨by rw [← hl]; exact G, hm, hn, hf, cl.i4, fun t ht => List.all_eq_true.mp hc t (of_decide_eq_true ht), T.binds b⟩
end
end CM
/-! xs[::-1]; defaults of keyword-only parameters -/
namespace CM
open PySem PySem.Spec PyProof.Rows L2

def fRev (nm : Bool) : F1 := fun d h => match lstOf h d with
  | some xs => mkL nm xs.reverse h
  | none => .no
section
variable {X : Cx} {K : PySem.W.Frag} {CA : CAs} {W : WX} {e : Expr} {ha : TE} {ta : TD} {k : Nat} {p1 p2 p3 pos : Pos}
theorem we_rev (nm : Bool) (x : WE X K CA W e ha ta) (hK : X.K = K := by rfl) : WE X K CA W (.Subscript e (.Slice none none (some (.UnaryOp .USub (.Constant (.int 1) k p1) p2)) p3) pos) (tRevL K ha) (dUn (fRev nm) ta) := by
  subst hK
  refine ⟨pe_revL x.pe, fun m h H σ ρ Q' S t => x.sim m h H σ ρ _ S (t.bind fun d h1 m1 v H1 s1 S1 r1 t1 => ?_)⟩
  unfold fRev at t1
  split at t1
  · rename_i xs el
    obtain ⟨a, ys, rfl, e1, rr⟩ := rp_lst S1 r1 el
    exact ⟨a, ys, rfl, .of e1, fun p n => mkL_post S1 n rr.reverse t1⟩
  · exact t1.elim
end
theorem KwB.kw {K : PySem.W.Frag} {CA : CAs} {fd : FuncData} {ps : List Str} {n : Nat} {ks : List Str} {src : List Src} {D : Addr} (names : List Str) (cs : List Value) (hq : ∀ q, q ∈ names.zip cs → PySem.W.nsIn K D q.1 = some (some q.2)) (he : Paired (Ever K CA) cs (consts src))
    (h : ∀ us ws : List Value, us.length = n → ws.length = ks.length → KwChain D (names.zip cs) (bindArgs fd ⟨us, ks.zip ws⟩) (ps.zip (pickL us ws src cs))) : KwB K CA fd ps n ks src :=
  ⟨cs, he, fun s us ws X l1 l2 => BindsTo.of_looks fun M => KwChain.looks X hq (h us ws l1 l2)⟩
end CM
/-! repr of data with dicts in it -/
namespace CM
open PySem PySem.Spec PyProof.Rows L2

mutual
inductive DpD (K : PySem.W.Frag) (H : Hp) : V → PyData → Prop
  | non : DpD K H .non .none
  | bl (b : Bool) : DpD K H (.bl b) (.bool b)
  | int (i : Int) : DpD K H (.int i) (.int i)
  | str (x : Str) : DpD K H (.str x) (.str x)
  | lst {a : Addr} {xs : List V} {ds : List PyData} : SqL K H a xs → DpDs K H xs ds → DpD K H (.ref a) (.list ds)
  | tup {a : Addr} {xs : List V} {ds : List PyData} : SqT K H a xs → DpDs K H xs ds → DpD K H (.ref a) (.tuple ds)
  | dct {a : Addr} {kvs : List (Key × V)} {ks ds : List PyData} : Rd H a (.dK kvs) → ks = kvs.map (fun p => match p.1 with | .inl i => PyData.int i | .inr x => PyData.str x) → DpDs K H (kvs.map (·.2)) ds → DpD K H (.ref a) (.dict (ks.zip ds))
inductive DpDs (K : PySem.W.Frag) (H : Hp) : List V → List PyData → Prop
  | nil : DpDs K H [] []
  | cons {v : V} {vs : List V} {d : PyData} {ds : List PyData} : DpD K H v d → DpDs K H vs ds → DpDs K H (v :: vs) (d :: ds)
end
def keyP : Key → PyData
  | .inl i => .int i
  | .inr x => .str x
section
variable {X : Cx} {pins : List (Addr × Obj)} {σ : L2.St} {H : Hp} {s : Shared}
theorem DpDs.length {K : PySem.W.Frag} {vs : List V} {ds : List PyData} (r : DpDs K H vs ds) : vs.length = ds.length := by
  induction vs generalizing ds with
  | nil => cases r; rfl
  | cons v vs ih => cases r with
    | cons _ h => simp [ih h]
theorem keys_reads {P : Program} {w : World} {h : Heap} : ∀ {kvs : List (Key × Value)} {es : List DictEntry}, Pairs (mixKind P w) es kvs → ReadsAll h (es.map (·.key)) (kvs.map fun p => keyP p.1) []
  | [], _, r => by cases r; exact .nil
  | (k, v) :: kvs, _, r => by
    cases r with
    | @cons e _ es _ h1 h2 h3 =>
      have ih := keys_reads (h := h) h3
      have hk : Reads h e.key (keyP k) [] := by
        have h1' : keyIs k e.key = true := h1
        rcases keyIs_shape h1' with ⟨i, t, rfl, q⟩ | ⟨x, t, rfl, q⟩
        · rw [q]; exact .int i t
        · rw [q]; exact .str x t
      exact ReadsAll.cons (as := []) (bs := []) hk ih
theorem vals_pairs {P : Program} {w : World} : ∀ {kvs : List (Key × V)} {vs : List (Key × Value)} {es : List DictEntry}, KV kvs vs → Pairs (mixKind P w) es vs → Vals (kvs.map (·.2)) (es.map (·.val)) ∧ kvs.map (·.1) = vs.map (·.1)
  | [], _, _, r, p => by cases r; cases p; exact ⟨.nil, rfl⟩
  | kv :: kvs, _, _, r, p => by
    cases r with
    | cons a r =>
      cases p with
      | cons h1 h2 h3 =>
        obtain ⟨q1, q2⟩ := vals_pairs r h3
        have hv : L2.RelV kv.2 _ := a.2
        rw [← h2] at hv
        exact ⟨.cons hv q1, by simp only [List.map_cons, q2, a.1]⟩
/-- where a list or a tuple stands, the modules' dict does not -/
theorem sm_ne (I : Inv X pins σ H s) (sm : SM X.base) {a : Addr} {o : Obj} {vs : Array Value} {n : Nat} (e : s.heap.get? a = some o) (d : o.data = .seq vs n) : a ≠ sysModules := fun z => by
  obtain ⟨o', es, ep, e', d'⟩ := sm
  have e2 := I.bk _ _ e'
  rw [← z, e] at e2
  cases e2
  rw [d] at d'
  cases d'
mutual
theorem DpD.reads (I : Inv X pins σ H s) (sm : SM X.base) : ∀ (d : PyData) (v : V) (u : Value), DpD X.K H v d → RelV v u → ∃ as, Reads s.heap u d as ∧ sysModules ∉ as
  | .none, _, _, h, r => by cases h; cases r; exact ⟨_, Reads.none, by simp⟩
  | .bool b, _, _, h, r => by cases h; cases r; exact ⟨_, Reads.bool b, by simp⟩
  | .int i, _, _, h, r => by cases h; obtain ⟨t, rfl⟩ := r; exact ⟨_, Reads.int i t, by simp⟩
  | .str x, _, _, h, r => by cases h; obtain ⟨t, rfl⟩ := r; exact ⟨_, Reads.str x t, by simp⟩
  | .list ds, _, _, h, r => by
    cases h with
    | lst hs ha =>
      cases r
      obtain ⟨its, rv, ⟨o, n, ho, hc, _, hd⟩, _⟩ := I.list hs
      obtain ⟨as, hr, na⟩ := DpDs.reads I sm ds _ its ha rv
      refine ⟨_, Reads.list ho hc hd hr, fun z => ?_⟩
      rcases List.mem_cons.mp z with z | z
      · exact sm_ne I sm ho hd z.symm
      · exact na z
  | .tuple ds, _, _, h, r => by
    cases h with
    | tup hs ha =>
      cases r
      obtain ⟨its, rv, ⟨o, ho, hc, n, hd⟩, _⟩ := I.tuple hs
      obtain ⟨as, hr, na⟩ := DpDs.reads I sm ds _ its ha rv
      exact ⟨_, Reads.tuple ho hc hd hr, na⟩
  | .dict kvs0, _, _, h, r => by
    cases h with
    | @dct a kvs ks ds hr ek ha =>
      cases r
      obtain ⟨z, lo, vs, rel, o, es, ep, ho, hx, hd, _, pr, _⟩ := dk_rd I.hok hr
      obtain ⟨q1, q2⟩ := vals_pairs rel pr
      have kr := keys_reads (h := s.heap) pr
      have ll := ha.length
      have ek2 : ks = vs.map fun p => keyP p.1 := by
        rw [ek]
        have : (fun p : Key × V => (match p.1 with | .inl i => PyData.int i | .inr x => PyData.str x)) = fun p => keyP p.1 := by
          funext p
          obtain ⟨k, v⟩ := p
          cases k <;> rfl
        rw [this]
        have e3 : (kvs.map (·.1)).map keyP = (vs.map (·.1)).map keyP := by rw [q2]
        rw [List.map_map, List.map_map] at e3
        exact e3
      have lk : ks.length = ds.length := by rw [ek, List.length_map, ← ll, List.length_map]
      have m1 : (ks.zip ds).map (·.1) = ks := by rw [List.map_fst_zip]; omega
      have m2 : (ks.zip ds).map (·.2) = ds := by rw [List.map_snd_zip]; omega
      have sz : ∀ p ∈ ks.zip ds, p.2 ∈ ds := fun p hp => (List.of_mem_zip hp).2
      obtain ⟨as, hr2, na⟩ := DpDs.readsZ I sm (ks.zip ds) ds _ _ m2 ha q1
      refine ⟨_, Reads.dict ho hx.1 hd (by rw [m1, ek2]; exact kr) (by rw [m2]; exact hr2), fun z => ?_⟩
      simp only [List.append_nil, List.cons_append, List.mem_cons, List.nil_append] at z
      rcases z with z | z
      · rw [z] at lo; simp at lo
      · exact na z
theorem DpDs.reads (I : Inv X pins σ H s) (sm : SM X.base) : ∀ (ds : List PyData) (vs : List V) (us : List Value), DpDs X.K H vs ds → Vals vs us → ∃ as, ReadsAll s.heap us ds as ∧ sysModules ∉ as
  | [], _, _, h, r => by cases h; cases r; exact ⟨_, ReadsAll.nil, by simp⟩
  | d :: ds, _, _, h, r => by
    cases h with
    | cons h1 h2 =>
      cases r with
      | cons r1 r2 =>
        obtain ⟨as, q1, n1⟩ := DpD.reads I sm d _ _ h1 r1
        obtain ⟨bs, q2, n2⟩ := DpDs.reads I sm ds _ _ h2 r2
        exact ⟨_, ReadsAll.cons q1 q2, by simp [n1, n2]⟩
theorem DpDs.readsZ (I : Inv X pins σ H s) (sm : SM X.base) : ∀ (zs : List (PyData × PyData)) (ds : List PyData) (vs : List V) (us : List Value), zs.map (·.2) = ds → DpDs X.K H vs ds → Vals vs us → ∃ as, ReadsAll s.heap us ds as ∧ sysModules ∉ as
  | [], _, _, _, e, h, r => by subst e; cases h; cases r; exact ⟨_, ReadsAll.nil, by simp⟩
  | (k, d) :: zs, _, _, _, e, h, r => by
    subst e
    cases h with
    | cons h1 h2 =>
      cases r with
      | cons r1 r2 =>
        obtain ⟨as, q1, n1⟩ := DpD.reads I sm d _ _ h1 r1
        obtain ⟨bs, q2, n2⟩ := DpDs.readsZ I sm zs _ _ _ rfl h2 r2
        exact ⟨_, ReadsAll.cons q1 q2, by simp [n1, n2]⟩
end
end
/-- as the library's data, dicts too -/
def toQ (h : CH) : Nat → D → Option PyData
  | 0, _ => none
  | n + 1, d => match d with
    | .non => some .none
    | .bl b => some (.bool b)
    | .int i => some (.int i)
    | .str x => some (.str x)
    | .lst xs => (xs.mapM (toQ h n)).map .list
    | .tup xs => (xs.mapM (toQ h n)).map .tuple
    | .dct kvs => ((kvs.map (·.2)).mapM (toQ h n)).map fun ds => .dict ((kvs.map fun p => keyP p.1).zip ds)
    | .ref k => match h.ob k with
      | some (.lst xs) => (xs.mapM (toQ h n)).map .list
      | some (.dct kvs) => ((kvs.map (·.2)).mapM (toQ h n)).map fun ds => .dict ((kvs.map fun p => keyP p.1).zip ds)
      | _ => none
    | _ => none
section
variable {X : Cx} {K : PySem.W.Frag} {CA : CAs} {W : WX} {m : Mp} {h : CH} {H : Hp}
theorem rp_dpq_of {f : D → Option PyData} (ih : ∀ (d : D) (v : V) (p : PyData), Rp K CA m h H v d → f d = some p → DpD K H v p) : ∀ (ds : List D) (vs : List V) (ps : List PyData), RpAll K CA m h H vs ds → ds.mapM f = some ps → DpDs K H vs ps
  | [], _, _, r, e => by cases r; simp at e; subst e; exact .nil
  | d :: ds, _, _, r, e => by
    cases r with
    | cons h1 h2 =>
      simp only [List.mapM_cons, Option.bind_eq_bind, Option.bind_eq_some_iff, Option.pure_def, Option.some.injEq] at e
      obtain ⟨p, e1, ps, e2, rfl⟩ := e
      exact .cons (ih d _ p h1 e1) (rp_dpq_of ih ds _ ps h2 e2)
theorem dct_dpq {n : Nat} {v : V} {d : D} {kvs : List (Key × D)} {p : PyData} (S : HR K CA m h H) (ih : ∀ (d : D) (v : V) (p : PyData), Rp K CA m h H v d → toQ h n d = some p → DpD K H v p) (r : Rp K CA m h H v d) (ed : dctOf h d = some kvs)
    (e : ((kvs.map (·.2)).mapM (toQ h n)).map (fun ds => PyData.dict ((kvs.map fun p => keyP p.1).zip ds)) = some p) : DpD K H v p := by
  simp only [Option.map_eq_some_iff] at e
  obtain ⟨ps, e1, rfl⟩ := e
  obtain ⟨a, o, hk, rfl, ea, ec, en, r2⟩ := rp_dct S r ed
  have hrd : Rd H a (.dK hk) := by
    rcases core_dK ec with rfl | ⟨ob, rfl⟩
    · exact .inl ea
    · exact .inr ⟨ob, ea⟩
  refine .dct hrd ?_ (rp_dpq_of ih _ _ ps r2 e1)
  have e3 : (kvs.map (·.1)).map keyP = (hk.map (·.1)).map keyP := by rw [en]
  have this : (fun p : Key × V => (match p.1 with | .inl i => PyData.int i | .inr x => PyData.str x)) = fun p => keyP p.1 := by
    funext p
    obtain ⟨k, v⟩ := p
    cases k <;> rfl
  rw [this]
  rw [List.map_map, List.map_map] at e3
  exact e3
theorem rp_dpq (S : HR K CA m h H) : ∀ (n : Nat) (d : D) (v : V) (p : PyData), Rp K CA m h H v d → toQ h n d = some p → DpD K H v p
  | 0, d, _, _, _, e => by cases d <;> cases e
  | n + 1, .non, _, _, r, e => by cases r; simp only [toQ, Option.some.injEq] at e; subst e; exact .non
  | n + 1, .bl b, _, _, r, e => by cases r; simp only [toQ, Option.some.injEq] at e; subst e; exact .bl b
  | n + 1, .int b, _, _, r, e => by cases r; simp only [toQ, Option.some.injEq] at e; subst e; exact .int b
  | n + 1, .str b, _, _, r, e => by cases r; simp only [toQ, Option.some.injEq] at e; subst e; exact .str b
  | n + 1, .lst ds, _, _, r, e => by
    simp only [toQ, Option.map_eq_some_iff] at e
    obtain ⟨ps, e1, rfl⟩ := e
    obtain ⟨a, xs, rfl, e2, r2⟩ := rp_lst S r rfl
    exact .lst (.of e2) (rp_dpq_of (rp_dpq S n) ds xs ps r2 e1)
  | n + 1, .tup ds, _, _, r, e => by
    simp only [toQ, Option.map_eq_some_iff] at e
    obtain ⟨ps, e1, rfl⟩ := e
    obtain ⟨a, xs, rfl, e2, r2⟩ := rp_tup r
    exact .tup e2 (rp_dpq_of (rp_dpq S n) ds xs ps r2 e1)
  | n + 1, .dct kvs, v, p, r, e => dct_dpq S (rp_dpq S n) r rfl (by simpa only [toQ] using e)
  | n + 1, .ref k, v, p, r, e => by
    simp only [toQ] at e
    split at e
    · rename_i ds q
      simp only [Option.map_eq_some_iff] at e
      obtain ⟨ps, e1, rfl⟩ := e
      obtain ⟨a, xs, rfl, e2, r2⟩ := rp_lst S r (show lstOf h (.ref k) = some ds by simp only [lstOf, q])
      exact .lst (.of e2) (rp_dpq_of (rp_dpq S n) ds xs ps r2 e1)
    · rename_i kvs q
      exact dct_dpq S (rp_dpq S n) r (show dctOf h (.ref k) = some kvs by simp only [dctOf, q]) e
    · cases e
  | n + 1, .obj _ _, _, _, _, e => by simp [toQ] at e
  | n + 1, .scr _, _, _, _, e => by simp [toQ] at e
  | n + 1, .ty _, _, _, _, e => by simp [toQ] at e
  | n + 1, .cls _, _, _, _, e => by simp [toQ] at e
  | n + 1, .exc _ _, _, _, _, e => by simp [toQ] at e
def boxed (h : CH) (d : D) : Bool := (seqOf h d).isSome || (dctOf h d).isSome
def fRep : FD := fun ds h => match ds with
  | [.int i] => if i.natAbs.log2 < 1920 then .ok (.str (toString i)) h else .no
  | [d] => match toQ h 14 d with
    | some p => if boxed h d = true ∧ p.showable = true ∧ p.depth ≤ 60 ∧ p.shown.length ≤ sizeLine then .ok (.str p.shown) h else .no
    | none => .no
  | _ => .no
def rRep (K : PySem.W.Frag) : List V → Hp → VK → Prop := fun xs H Q => (∃ i, xs = [.int i] ∧ i.natAbs.log2 < 1920 ∧ Q (.str (toString i)) H) ∨
  ∃ a p, xs = [V.ref a] ∧ DpD K H (V.ref a) p ∧ p.showable = true ∧ p.depth ≤ 60 ∧ p.shown.length ≤ sizeLine ∧ Q (.str p.shown) H
theorem call_rep (sm : SM X.base) (hG : X.A.guards = some []) (hu : X.A.units + 64 < cLine) (hK : X.K = K := by rfl) : CallR X (.builtin "repr") (rRep K) := by
  subst hK
  rintro pins s σ H xs us Q I r (⟨i, rfl, l, q⟩ | ⟨a, p, rfl, dp, sh, dep, sz, q⟩)
  · exact SkE.call_repr_int pins s σ H _ us Q I r ⟨i, rfl, l, q⟩
  · obtain ⟨u, rfl, rx⟩ := vals1 r
    cases (show u = Value.ref a from rx)
    obtain ⟨as, rd, na⟩ := DpD.reads I sm p (V.ref a) _ dp rfl
    exact repr_of_reads' rd sh (fun _ => na) hG (by omega) (fun _ _ e => e) (fun h' u tk hk => ⟨.str p.shown, H, I.kept hk, ⟨u, rfl⟩, q⟩) sz
theorem sim_rep : SimC K CA (rRep K) fRep := by
  intro W σ m h H xs ds Q' S r t
  unfold fRep at t
  split at t
  · cases r with
    | cons r1 r2 =>
      cases r1
      cases r2
      obtain ⟨c, t⟩ := post_ite t
      exact .inl ⟨_, rfl, c, t.here S (.str _)⟩
  · rename_i d _
    split at t
    · rename_i p e2
      obtain ⟨⟨c0, c1, c2, c3⟩, t⟩ := post_ite t
      cases r with
      | cons r1 r2 =>
        cases r2
        unfold boxed at c0
        cases e1 : seqOf h d with
        | some ys =>
          obtain ⟨a, zs, rfl, _, _⟩ := rp_seq S r1 e1
          exact .inr ⟨a, p, rfl, rp_dpq S _ _ _ p r1 e2, c1, c2, c3, t.here S (.str _)⟩
        | none =>
          rw [e1] at c0
          cases e3 : dctOf h d with
          | none => rw [e3] at c0; simp at c0
          | some kvs =>
            obtain ⟨a, o, hk, rfl, _⟩ := rp_dct S r1 e3
            exact .inr ⟨a, p, rfl, rp_dpq S _ _ _ p r1 e2, c1, c2, c3, t.here S (.str _)⟩
    · exact t.elim
  · exact t.elim
end
end CM
/-! own exceptions: made by super().__init__(text); self.f = v -/
namespace CM
open PySem PySem.Spec PySem.Calls PyProof.Rows L2

/-- an exception's __init__, as it is written -/
abbrev iniBody (txt fl arg : Str) (j : Nat) (p0 p1 p2 p3 p4 p5 q0 q1 q2 q3 : Pos) : List Stmt :=
  [.Expr (.Call (.Attribute (.Call (.Name "super" p0) [] [] p1) "__init__" p2) [.Constant (.str txt) j p3] [] p4) p5, .Assign [.Attribute (.Name "self" q0) fl q1] (.Name arg q2) q3]
/-- super().__init__(txt) is carried out as a method's call -/
def IniEv (txt : Str) (j : Nat) (p0 p1 p2 p3 p4 : Pos) (env : Env) (pl : Sem Bool) : Prop :=
  eval (.Call (.Attribute (.Call (.Name "super" p0) [] [] p1) "__init__" p2) [.Constant (.str txt) j p3] [] p4) env = (do
      let ov ← attributeBase (.Call (.Name "super" p0) [] [] p1) "__init__" env (eval (.Call (.Name "super" p0) [] [] p1) env)
      standAt p2.atName
      let (f, first) ← holding [ov] (getMethod ov "__init__" pl)
      callWith p4 f first (backTo p4 (starEach [.Constant (.str txt) j p3] env)) [])
/-- what its names are -/
def iniScB (arg : Str) (sc : Scope) : Bool :=
  decide (sc.kind = .function) && (!sc.isCoroutine && (!sc.isGenerator && (decide (sc.names.lookup ("super" : Str) = some .globalImplicit) && (decide (sc.names.lookup ("__class__" : Str) = some .free) &&
  (decide (sc.names.lookup ("self" : Str) = some .local) && (decide (sc.names.lookup arg = some .local) && (decide (("self" : Str) ≠ arg) && (decide (arg ≠ ("__debug__" : Str)) && (!(arg == ("__classdict__" : Str)) && sc.names.all fun y => !decide (y.2 = .cell) && (!decide (y.2 = .free) || decide (y.1 = ("__class__" : Str))))))))))))
structure IniSc (arg : Str) (sc : Scope) : Prop where
  kind : sc.kind = .function
  co : sc.isCoroutine = false
  gen : sc.isGenerator = false
  su : sc.names.lookup ("super" : Str) = some .globalImplicit
  cl : sc.names.lookup ("__class__" : Str) = some .free
  se : sc.names.lookup ("self" : Str) = some .local
  ar : sc.names.lookup arg = some .local
  ne : ("self" : Str) ≠ arg
  db : arg ≠ ("__debug__" : Str)
  dcd : (arg == ("__classdict__" : Str)) = false
  nc : ∀ y ∈ sc.names, y.2 ≠ .cell
  fr : ∀ y ∈ sc.names, y.2 = .free → y.1 = ("__class__" : Str)
theorem iniSc_by {arg : Str} {sc : Scope} (h : iniScB arg sc = true) : IniSc arg sc := by
  unfold iniScB at h
  simp only [Bool.and_eq_true, Bool.or_eq_true, Bool.not_eq_true', decide_eq_true_eq, decide_eq_false_iff_not, List.all_eq_true] at h
  obtain ⟨h1, h2, h3, h4, h5, h6, h7, h8, h9, h9b, h10⟩ := h
  exact ⟨h1, h2, h3, h4, h5, h6, h7, h8, h9, h9b, fun y hy => (h10 y hy).1, fun y hy e => (h10 y hy).2.resolve_left fun z => z e⟩
/-- what the written part says of the class at C and its __init__ at f -/
structure IniOk (P : Program) (K : PySem.W.Frag) (mg : Str → Option Value) (C f : Addr) (fl arg : Str) (fd : FuncData) : Prop where
  ox : OexC K C
  sup : PySem.W.ks_superIn K C C "__init__" = some (some (.builtin "ValueError.__init__"))
  ve : PySem.W.subIn K (.ref C) (.type "ValueError") = some true
  sc : PySem.W.mroIn K C (.ref C) = some true
  op : PySem.W.nsIn K cStatics "thirdparty.any" = some none
  no : PySem.W.findIn K (.ref C) fl = some none
  su : mg "super" = none
  tp : (P.main.scope.names.lookup ("super" : Str)).isSome = false
  bd : ∀ (s : Shared) (u v : Value), BindsTo s fd ⟨[u, v], []⟩ [("self", u), (arg, v)] ∧ BindsTo s fd ⟨[u], [(arg, v)]⟩ [("self", u), (arg, v)]
  fn : ∃ (qual txt : Str) (j : Nat) (p0 p1 p2 p3 p4 p5 q0 q1 q2 q3 : Pos) (params : Arguments) (scope : Scope) (dV kV doc pm ct oc : Value) (an od : Option Addr) (osl : Array (Option Value)) (cda cc : Addr),
    fd = PySem.W.ksFn "__init__" qual params (iniBody txt fl arg j p0 p1 p2 p3 p4 p5 q0 q1 q2 q3) scope dV kV doc pm an (.ref cda) ct cc ∧ K.lookup f = some ⟨oc, od, .func fd, osl⟩ ∧ PySem.W.codeIn K (.ref cda) qual = true ∧ IniSc arg scope ∧
    (∃ ar, (params.posonlyargs ++ params.args).head? = some ar ∧ ar.arg = ("self" : Str)) ∧ (∃ ccl cdd cvs ccs file tf, K.lookup cda = some ⟨ccl, cdd, .fields cvs, ccs⟩ ∧ cvs[2]? = some (.str file tf) ∧ ((P.main.file : Str) == file) = true) ∧
    (∃ cl cld csl, K.lookup cc = some ⟨cl, cld, .cell (some (.ref C)), csl⟩) ∧ (∀ env : Env, ∃ pl : Sem Bool, IniEv txt j p0 p1 p2 p3 p4 env pl)
def iniCx (P : Program) (w : World) (K : PySem.W.Frag) (mg : Str → Option Value) (base : Heap) (arg qual : Str) (scope : Scope) (f : Addr) (cdv : Value) (cc : Addr) (A : Around) (outer : List Env) (s : Shared) (H : Hp) : Cx where
  prog := P
  w := w
  K := K
  mg := mg
  base := base
  A := A.deeper (PySem.W.ksEnv qual scope s.heap.objs.size f cdv cc)
  N := ["self", arg]
  s_0 := s
  H_0 := H
  env := PySem.W.ksEnv qual scope s.heap.objs.size f cdv cc
  outer := outer
  stack := PySem.W.ksEnv qual scope s.heap.objs.size f cdv cc :: outer
  ex := []
  fn := fun _ => false
  calm := true
  pn := []
  xe := fun _ _ => False
section
variable {P : Program} {w : World} {K : PySem.W.Frag} {mg : Str → Option Value} {base : Heap} {arg qual : Str} {scope : Scope} {f cc C a : Addr} {cdv : Value} {A : Around} {outer : List Env} {s : Shared} {H : Hp} {v : V} {u : Value} {h₁ : Heap} {tk : Nat}
theorem ini_inv (S : IniSc arg scope) (hd : A.handled = none) (e0 : Env0 P w K mg base A outer s H) (hns : h₁.Ns s.heap.objs.size fun y => ([("self", Value.ref a), (arg, u)] : List (Str × Value)).reverse.lookup y) (kp : ∀ b o, s.heap.get? b = some o → h₁.get? b = some o) (rv : RelV v u)
    (lc : ∃ cl cld csl, K.lookup cc = some ⟨cl, cld, .cell (some (.ref C)), csl⟩) : Inv (iniCx P w K mg base arg qual scope f cdv cc A outer s H) [] [some (.ref a), some v] H { s with heap := h₁, toks := tk } := by
  obtain ⟨cl, cld, csl, lc⟩ := lc
  have noA : ∀ b : Addr, b ∉ (iniCx P w K mg base arg qual scope f cdv cc A outer s H).ex := fun b z => absurd (show b ∈ ([] : List Addr) from z) (by simp)
  have lkC : ∀ {y : Str} {c : Addr}, ([("__class__", cc)] : List (Str × Addr)).lookup y = some c → y = "__class__" ∧ c = cc := fun {y c} e => by
    simp only [List.lookup] at e
    split at e
    · rename_i q
      exact ⟨by simpa using q, by cases e; rfl⟩
    · cases e
  have cb := e0.bs _ _ (e0.mod.kin _ _ lc)
  refine ⟨⟨e0.mod, S.kind, rfl, rfl, Nat.le_refl _, fun y z c e1 e2 => ?_, fun y hy => ?_, fun y c z _ => (nomatch (show false = true from z)), fun _ => hd, Around.frames_deeper e0.frames, .inr ⟨rfl, rfl⟩, fun b z => absurd z (noA b), e0.bs, e0.bsz, fun b _ _ => noA b,
      fun b z => absurd z (noA b), e0.funs, e0.frf⟩,
    rfl, e0.bare, Un.kept kp, ⟨_, hns, fun i y x e1 e2 e3 => ?_⟩, fun y c e => ?_, e0.hok.fresh (Nat.le_refl _), fun y c e => ?_, fun q hq => absurd (show q ∈ ([] : List (Addr × Obj)) ++ [] from hq) (by simp), e0.hok.kept kp, rfl⟩
  · exact (lkC e1).1.trans (lkC e2).1.symm
  · have hy : scope.names.lookup y = some .cell ∨ scope.names.lookup y = some .free := hy
    rcases hy with hy | hy
    · exact absurd rfl (S.nc _ (PySem.mem_of_lookup hy))
    · have := S.fr _ (PySem.mem_of_lookup hy) rfl
      subst this
      exact ⟨cc, by simp [PySem.W.ksEnv, iniCx]⟩
  · match i, e1, e2 with
    | 0, e1, e2 =>
      cases e1
      cases e2
      refine ⟨.ref a, rfl, .inl ⟨S.se, ?_⟩⟩
      have nb : (("self" : Str) == arg) = false := by simpa using S.ne
      simp [List.lookup, nb]
    | 1, e1, e2 =>
      cases e1
      cases e2
      refine ⟨u, rv, .inl ⟨S.ar, ?_⟩⟩
      simp [List.lookup]
    | (i + 2), e1, e2 => exact absurd (show (([] : List (Option V))[i]? = some (some x)) from e2) (by simp)
  · obtain ⟨_, rfl⟩ := lkC e
    exact ⟨_, _, kp _ _ cb.1, rfl⟩
  · obtain ⟨_, rfl⟩ := lkC e
    exact cb.2
end

/-! ### __init__ keeps this -/
def spIni (C : Addr) (fl : Str) : Sp := fun vs H Q _ => ∃ a v, vs = [.ref a, v] ∧ H a = some (exo a C none) ∧ ∀ dx, H dx = none → dx ≠ a → Q .non (upd (upd H dx (exd dx [(fl, v)])) a (exo a C (some dx)))
section
variable {P : Program} {w : World} {K : PySem.W.Frag} {mg : Str → Option Value} {base : Heap} {C f : Addr} {fl arg : Str} {fd : FuncData} {CX : CXT}
theorem ini_ok (IO : IniOk P K mg C f fl arg fd) : FnOk P w K mg base CX 1 f fd ["self", arg] (spIni C fl) := by
  obtain ⟨ox, sup, ve, sc, op, no, su, tp, bd, qual, txt, j, p0, p1, p2, p3, p4, p5, q0, q1, q2, q3, params, scope, dV, kV, doc, pm, ct, oc, an, od, osl, cda, cc, rfl, lk, hcd, S, ⟨ar, har, hself⟩, ⟨ccl, cdd, cvs, ccs, file, tf, lkc, cv2, hfile⟩, lc, hev⟩ := IO
  refine ⟨fun vs H Q E ⟨a, v, e, _⟩ => by rw [e]; rfl, fun A outer s H args us vs Q E hr e0 hb r hsp => ?_⟩
  obtain ⟨a, v, rfl, ha, q⟩ := hsp
  cases r with
  | @cons _ u0 _ ur ra r1 =>
  obtain rfl : u0 = Value.ref a := ra
  cases r1 with
  | @cons _ u _ ur2 rv r2 =>
  cases r2
  have KX : K.In s.heap := e0.mod.kin.keeps fun b o e => (e0.bs b o e).1
  have lim : s.heap.NoLimit := e0.mod.nolimit.keeps fun b o e => (e0.bs b o e).1
  refine ks_codeAny_call_defAt (fd := PySem.W.ksFn "__init__" qual params (iniBody txt fl arg j p0 p1 p2 p3 p4 p5 q0 q1 q2 q3) scope dV kV doc pm an (.ref cda) ct cc) (binds := [("self", .ref a), (arg, u)]) hr.depth (KX _ _ lk) rfl lim (PySem.W.codeRec_of KX hcd) rfl hb
    S.nc (fun x hx => ?_) (fun h₁ hns hk => ?_) S.co S.gen S.kind
  · rcases List.mem_cons.mp hx with rfl | hx
    · exact S.se
    · rcases List.mem_cons.mp hx with rfl | hx
      · exact S.ar
      · exact absurd hx (by simp)
  have I : Inv (iniCx P w K mg base arg qual scope f (.ref cda) cc A outer s H) [] [some (.ref a), some v] H { s with heap := h₁, toks := s.toks + 2 } := ini_inv S hr.hd e0 hns hk rv lc
  have hsm : (fun y => ([("self", Value.ref a), (arg, u)] : List (Str × Value)).reverse.lookup y) ar.arg = some (.ref a) := by
    have nb : (("self" : Str) == arg) = false := by simpa using S.ne
    rw [hself]
    simp [List.lookup, nb]
  obtain ⟨cl, cld, csl, lc⟩ := lc
  obtain ⟨nm, qq, N, bs, bm, sn, sub, ab, col, dd, k0, k1, k2, k3, k5, hC, hbm⟩ := id ox.cls
  have hcl : PySem.W.clsIn K C = some { name := nm, bases := bs, mro := .ref C :: bm, ns := N, qualname := qq, hasDict := true, slotNames := sn, subclasses := sub, abstract := ab, collection := col, hasDel := false } := by unfold PySem.W.clsIn; rw [hC] <;> rfl
  unfold PySem.W.ks_superIn at sup
  rw [hcl] at sup
  have KI := I.kIn
  have GL : h₁.Ns mainGlobals mg := I.mod.glob.keeps I.bk
  obtain ⟨mb, hb1, hb2⟩ := I.mod.blt
  have BL : h₁.Ns builtinsNs mb := hb1.keeps I.bk
  obtain ⟨t1, hoa⟩ := exo_at I.hok ha
  refine ks_wpAt_mono (Q := fun fw s' => fw = .next ∧ CE outer P w H s Q .none s') (E := fun _ _ => False) ?_ (fun fw s' ⟨e, h⟩ => by subst e; exact h) (fun _ _ z => z.elim)
  obtain ⟨pl, hev⟩ := hev (PySem.W.ksEnv qual scope s.heap.objs.size f (.ref cda) cc)
  refine ks_wpAt_execs_cons (ks_wpAt_Expr_any (ks_wpAt_MethodCall ?_ hev) (by show (scope.kind == .module && _) = false; rw [S.kind]; rfl))
  refine ks_wpAt_super_base S.su S.cl (by decide) rfl (KI _ _ lk) rfl har rfl (KI _ _ lkc) rfl cv2 hfile tp ?_
  refine PySem.W.ks_loadName_global S.kind S.su (Calls.loadGlobal_builtin GL su BL ((hb2 _ (by decide)).trans PyProof.Rows.Boot.«super») ⟨rfl, ?_⟩)
  refine wpAny_loadName_free S.kind S.cl rfl ⟨_, KI _ _ lc, rfl⟩ ?_
  refine wpAny_loadName_local S.kind (hself ▸ S.se) hns hsm ?_
  refine ks_wpAny_isType_cls (KI _ _ hC) rfl ⟨rfl, ?_⟩
  refine ks_wpAny_call_super (KI _ _ hC) rfl hoa rfl (fun c e => by cases e) (PySem.W.looks_mroIn KI sc) (fun h2 so k => ?_)
  have I2 : Inv (iniCx P w K mg base arg qual scope f (.ref cda) cc A outer s H) [] [some (.ref a), some v] H { s with heap := h2, toks := s.toks + 2 } := I.un (Un.kept k) (I.hok.kept k)
  have KI2 := I2.kIn
  have IA : PySem.W.InstAt h2 a { cls := .ref C, dict := none, data := .fields #[.ref t1, .none, .none, .none, .bool false, .none] } C none := ⟨k _ _ hoa, rfl, rfl, trivial⟩
  refine PySem.W.kxs_getMethod PySem.W.kxs_ValueError so (PySem.W.looks_opaque KI2 op) (l₀ := .ref C :: bm) (fun A Q E s k q => wpAny_bind ((PySem.W.looks_clsIn KI2 hcl) A _ E s k (wpAny_pure q))) rfl KI2 sup (IA.type.andThen (PySem.W.looks_subIn KI2 ve)) (PySem.W.ks_ne KI2 IA hcl) (by decide) ?_
  have I3 : Inv (iniCx P w K mg base arg qual scope f (.ref cda) cc A outer s H) [(h2.objs.size, PySem.W.kxs_mw "ValueError.__init__" a)] [some (.ref a), some v] H { s with heap := h2.push (PySem.W.kxs_mw "ValueError.__init__" a), toks := s.toks + 3 } :=
    Inv.pins_of (pins := []) (I2.un (Un.kept fun b o e => Heap.get?_push_of_some _ e) (I2.hok.kept fun b o e => Heap.get?_push_of_some _ e)) fun p hp => by
      obtain rfl : p = _ := by simpa using hp
      exact ⟨Heap.get?_push_at rfl rfl, I2.hok.fresh (Nat.le_refl _), fun z => absurd I2.lt (by show ¬ _ < h2.objs.size; rw [show h2.objs.size = _ from z]; exact Nat.lt_irrefl _), I2.nofs (Nat.le_refl _), fun v z => by cases z⟩
  have ha3 : PA (iniCx P w K mg base arg qual scope f (.ref cda) cc A outer s H) [.Constant (.str txt) j p3] (tCons (tC (.str txt)) tNil) := pa_cons pe_str pa_nil
  refine PySem.W.kxs_callWith (i := "ValueError.__init__") (x := a) (by rfl) (evalArgs_plain (thn (ha3.run p4 [(h2.objs.size, PySem.W.kxs_mw "ValueError.__init__" a)] _ _ H (fun vs H1 => vs.length = 1 ∧ H1 = H) I3 ⟨rfl, rfl⟩) fun vs s1 hh => ?_))
  obtain ⟨vs1, H1, I4, r4, hl1, eH⟩ := hh
  subst eH
  have hl4 : vs.length ≤ sizeLine := by
    rw [← Paired.length r4, hl1, sizeLine_eq]
    omega
  obtain ⟨hu, _⟩ := I4.pin (h2.objs.size, PySem.W.kxs_mw "ValueError.__init__" a) (List.mem_append_right _ (List.mem_cons_self ..))
  obtain ⟨t4, ho4⟩ := exo_at I4.hok ha
  refine ⟨hu, ?_⟩
  obtain ⟨hp4, g4, d4, tk4, os4⟩ := s1
  refine wpAny_call (codeAny_of_tree ?_)
  show wpAny _ (Around.in1 _) (callAny (.ref h2.objs.size) ⟨[] ++ vs, []⟩) _ _ _
  simp only [callAny]
  refine wpAny_bind (wpAny_load hu ?_)
  simp only [PySem.W.kxs_mw, show (Value.type "method-wrapper" == Value.type "method" || Value.type "method-wrapper" == Value.type "builtin_function_or_method" || Value.type "method-wrapper" == Value.type "method-wrapper") = true by decide, if_true]
  refine PySem.W.KFB.if_so (by decide) ?_
  refine wpAny_bind (PySem.W.check_bound_init F.excBase_ValueError.toExcCallFacts (I4.kIn _ _ hC) ho4 rfl ?_)
  refine wpAny_bind (wpAny_pure (wpAny_pure ?_))
  refine ⟨plainId_quiet F.excBase_ValueError.init.plain _, codeAny_builtin F.excBase_ValueError.initEntry ?_⟩
  refine PySem.W.exc_init_tree (cls := .ref C) (t0 := t4) (dv := none) (c2 := .none) (c3 := .none) (b4 := .bool false) ho4 hl4 fun h' kk hx _ => ?_
  have J := I4.write (t' := tk4) (x := a) (e := a) (o := exo a C none) (by rw [ha]; exact True.intro) (.inl rfl) kk ⟨_, hx⟩ (exo_ok hx)
  have eu : upd H1 a (exo a C none) = H1 := by
    funext b
    by_cases hb : b = a
    · rw [hb, upd_same, ha]
    · rw [upd_ne hb]
  rw [eu] at J
  have J2 : Inv (iniCx P w K mg base arg qual scope f (.ref cda) cc A outer s H1) [] [some (.ref a), some v] H1 ⟨h', g4, d4, tk4, os4⟩ := J.pins_of (pins' := []) fun p z => absurd z (by simp)
  refine ks_wpAt_execs_cons (ks_wpAt_Assign_Attr (wpAt_of_wpAny (thn ((pe_var (i := 1) (x := arg) rfl (.inl S.ar) (by simpa using S.db) S.dcd).run [] _ _ H1 (fun y H2 => y = v ∧ H2 = H1) J2 ⟨v, rfl, rfl, rfl⟩) fun u5 s5 h5 => ?_)) (by rfl))
  obtain ⟨y5, H5, J5, r5, rfl, rfl⟩ := h5
  refine thn ((pe_var (i := 0) (x := "self") rfl (.inl S.se)).run [] _ _ H5 (fun y H2 => y = V.ref a ∧ H2 = H5) J5 ⟨.ref a, rfl, rfl, rfl⟩) fun u6 s6 h6 => ?_
  obtain ⟨y6, H6, J6, r6, rfl, rfl⟩ := h6
  obtain rfl : u6 = Value.ref a := r6
  refine ost_new ox J6 ha no r5 fun dx s' n ne J7 => ?_
  exact wpAt_of_wpAny (wpAny_execs_nil ⟨rfl, .non, _, J7.os, J7.bare, J7.base, J7.hok, rfl, q dx n ne⟩)
end
end CM
/-! own exceptions as values: made (by place, by name) -/
namespace CM
open PySem PySem.Spec PySem.Calls PyProof.Rows L2 PySem.HandSPX

section
variable {M : Model} {A : Around} {E : Value → Shared → Prop} {h : Heap} {g : Array GenState} {d : Drawn} {t : Nat} {os : OsState}
variable {nm q : Str} {C N : Addr} {bs bm bmB : List Value} {hdct : Bool} {sn : List Str} {sub : List Value} {ab : Bool} {col : Option Bool} {dd : Option Addr} {k0 k1 k2 k3 k5 : Option Value} {B newId initId : String}
theorem check_newK (F : ExcBaseFacts B newId initId bmB) (hT : ∀ X : String, bm.contains (.type X) = bmB.contains (.type X)) {rest : List Value} {kw : List (Str × Value)} {Q : Unit → Shared → Prop}
    (hC : h.get? C = some (excClassObj nm q C N bs bm hdct sn sub ab col dd k0 k1 k2 k3 k5 newId)) (hq : Q () ⟨h, g, d, t, os⟩) : wpAny M A (checkBuiltinCall newId ⟨.ref C :: rest, kw⟩) Q E ⟨h, g, d, t, os⟩ := by
  have hcont : (Value.ref C :: bm).contains (.type B) = true := by rw [List.contains_cons, hT, F.hasB, Bool.or_true]
  have hstar := F.noStar
  simp only [checkBuiltinCall, F.newKind, F.newSplit, F.newRow]
  repeat (first | refine wpAny_loadPart_at hC ?_ | (refine wpAny_isSubtype_exc hC ?_; rw [hcont]) | refine wpAny_staticBase_exc hC ?_ | refine wpAny_madeBy_exc hC ?_ | simp only [bne_self_eq_false, Bool.false_eq_true, if_false] | wp_step)
  exact hq
end
section
variable {prog : Program} {w : World} {A : Around} {E : Value → Shared → Prop} {R : Result → Shared → Prop} {h : Heap} {g : Array GenState} {d : Drawn} {t : Nat} {os : OsState}
variable {nm q : Str} {C N : Addr} {bs bm bmB : List Value} {hdct : Bool} {sn : List Str} {sub : List Value} {ab : Bool} {col : Option Bool} {dd : Option Addr} {k0 k1 k2 k3 k5 : Option Value} {B newId initId : String} {kw : List (Str × Value)}
theorem new_ownK (F : ExcBaseFacts B newId initId bmB) (hT : ∀ X : String, bm.contains (.type X) = bmB.contains (.type X)) {rest : List Value}
    (hC : h.get? C = some (excClassObj nm q C N bs bm hdct sn sub ab col dd k0 k1 k2 k3 k5 newId))
    (hq : R (.ok (.ret (.ref (h.objs.size + 1)))) ⟨(h.push { cls := .type "tuple", data := .seq rest.toArray }).push
      { cls := .ref C, data := .fields #[.ref h.objs.size, .none, .none, .none, .bool false, .none] }, g, d, t, os⟩) (hrest : rest.length ≤ sizeLine) :
    codeAny (model prog w) A (.builtin newId ⟨.ref C :: rest, kw⟩) R ⟨h, g, d, t, os⟩ := by
  have hends := F.ends
  have hcB : (Value.ref C :: bm).contains (.type B) = true := by rw [List.contains_cons, hT, F.hasB, Bool.or_true]
  have hcA : (Value.ref C :: bm).contains (.type "AttributeError") = false := by rw [List.contains_cons, hT, F.noAttr]; rfl
  have hcN : (Value.ref C :: bm).contains (.type "NameError") = false := by rw [List.contains_cons, hT, F.noName]; rfl
  refine codeAny_builtinAt F.entry ?_
  unfold Builtin.«BaseException.__new__»
  refine PySem.wpAt_bind ?_
  show PySem.wpAt _ _ _ (stack >>= _) _ _ _
  refine PySem.wpAt_bind (PySem.wpAt_stack fun p below => PySem.wpAt_of_wpAny ?_)
  wp_walk
  refine PySem.wpAt_of_wpAny ?_
  rw [F.owner]
  repeat (first | with_reducible refine wpAny_madeHere_exc F.canon hC ?_ | with_reducible refine wpAny_loadPart_at hC ?_ | (with_reducible refine wpAny_isSubtype_exc hC ?_; first | rw [hcB] | rw [hcA] | rw [hcN]) | wp_step)
  show R _ _
  rw [Heap.size_push]
  exact hq
theorem type_call_ownK (F : ExcBaseFacts B newId initId bmB) (hT : ∀ X : String, bm.contains (.type X) = bmB.contains (.type X)) {rest : List Value} {fI : Addr} {Q : Fin → Shared → Prop}
    (hC : h.get? C = some (excClassObj nm q C N bs bm hdct sn sub ab col dd k0 k1 k2 k3 k5 newId))
    (hi : W.Looks (model prog w) h (typeLookup (.ref C) "__init__") (some (.ref fI))) (hb : ∀ self, W.Looks (model prog w) h (bindSpecial (.ref fI) self) (.ref fI, [self])) (hrest : rest.length ≤ sizeLine)
    (hq : codeAny (model prog w) A (.call (.ref fI) ⟨.ref (h.objs.size + 1) :: rest, kw⟩)
      (fun r s' => match r with | .ok (.ret v) => v = .none ∧ Q (.done (.ret (.ref (h.objs.size + 1)))) s' | .ok _ => False | .error e => E e s')
      ⟨(h.push (W.kdv_tup rest)).push (excO C h.objs.size), g, d, t, os⟩) :
    wpAny (model prog w) A (Builtin.«type.__call__» ⟨.ref C :: rest, kw⟩) Q E ⟨h, g, d, t, os⟩ := by
  repeat (first | with_reducible refine wpAny_loadPart_at hC ?_ | with_reducible refine wpAny_madeBy_exc hC ?_ | wp_step)
  refine codeAny_call_builtin_code (Code.quiet_builtin _ F.quiet) (check_newK F hT hC ?_)
  refine new_ownK F hT hC ?_ hrest
  show wpAny _ _ _ _ _ _
  have k : ∀ b o, h.get? b = some o → ((h.push (W.kdv_tup rest)).push (excO C h.objs.size)).get? b = some o := fun b o e => Heap.get?_push_of_some _ (Heap.get?_push_of_some _ e)
  have hC₁ := k _ _ hC
  have hget : ((h.push (W.kdv_tup rest)).push (excO C h.objs.size)).get? (h.objs.size + 1) = some (excO C h.objs.size) := by heap_get
  have hcC : (Value.ref C :: bm).contains (.ref C) = true := by simp
  have i1 := hi.keeps k
  have b1 := (hb (.ref (h.objs.size + 1))).keeps k
  unfold isInstance
  repeat (first | with_reducible refine wpAny_loadPart_at hget ?_ | (with_reducible refine wpAny_isSubtype_exc hC₁ ?_; rw [hcC]) | wp_step)
  show wpAny _ _ (typeLookup (.ref C) _) _ _ _
  refine i1.at ?_
  refine wpAny_holding (wpAny_bind (b1.at ?_))
  refine wpAny_bind (wpAny_call (codeAny_mono hq fun r s' z => ?_))
  rcases r with e | (v | _ | _ | _) <;> first | exact z | exact z.elim | skip
  obtain ⟨rfl, z⟩ := z
  first
    | exact wpAny_pure (wpAny_pure z)
    | (wp_walk; exact z)
theorem call_ownK (F : ExcBaseFacts B newId initId bmB) (hT : ∀ X : String, bm.contains (.type X) = bmB.contains (.type X)) {rest : List Value} {fI : Addr}
    (hC : h.get? C = some (excClassObj nm q C N bs bm hdct sn sub ab col dd k0 k1 k2 k3 k5 newId))
    (hi : W.Looks (model prog w) h (typeLookup (.ref C) "__init__") (some (.ref fI))) (hb : ∀ self, W.Looks (model prog w) h (bindSpecial (.ref fI) self) (.ref fI, [self])) (hrest : rest.length ≤ sizeLine)
    (hq : codeAny (model prog w) (A.under (.builtin "type.__call__" ⟨.ref C :: rest, kw⟩)) (.call (.ref fI) ⟨.ref (h.objs.size + 1) :: rest, kw⟩) (W.InitBack (h.objs.size + 1) R)
      ⟨(h.push (W.kdv_tup rest)).push (excO C h.objs.size), g, d, t, os⟩) :
    codeAny (model prog w) A (.call (.ref C) ⟨rest, kw⟩) R ⟨h, g, d, t, os⟩ := by
  have f1 := tc_lookup
  have f2 := tc_bind (.ref C)
  have hTy : (⟨h, g, d, t, os⟩ : Shared).TypeIs (.ref C) "type" := ⟨_, hC, rfl⟩
  refine codeAny_of_tree ?_
  show wpAny _ _ (callAny (.ref C) _) _ _ _
  repeat (any_goals (first | assumption | with_reducible refine wpAny_loadPart_at hC ?_ | wp_step))
  refine ⟨rfl, ?_⟩
  refine codeAny_call_builtin_at (Code.quiet_builtin _ (by decide +kernel)) entry_typeCall (wpAny_check_type_call_sub hC (type_call_ownK F hT hC hi hb hrest ?_))
  refine codeAny_mono hq fun r s' z => ?_
  rcases r with e | (v | _ | _ | _) <;> exact z
end
end CM
/-! own exceptions as values and raised: readings and rules -/
namespace CM
open PySem PySem.Spec PySem.Calls PyProof.Rows L2

theorem exd_frz {e : Addr} {fs : List (Str × V)} {o : Obj} {u : HO} : exd e fs ≠ .frz o u := fun z => by
  unfold exd at z
  cases z
theorem exd_tbl {e : Addr} {fs : List (Str × V)} {ps : Array Value} : exd e fs ≠ .tbl ps := fun z => by
  unfold exd at z
  cases z
theorem exv_ok {P : Program} {w : World} {H : Hp} {h : Heap} {a C : Addr} {d : Option Addr} {oe : Obj} {vs : Array Value} (e : h.get? a = some oe) (z : Zc (.ref C) d oe) (hd : oe.data = .fields vs) : ObjOk P w H h a (ExV C a d) :=
  ⟨⟨oe, vs, e, z, hd⟩, ⟨oe, e⟩, fun _ _ ⟨o, v, q, r⟩ k => ⟨o, v, k o q, r⟩⟩
section
variable {X : Cx} {pins : List (Addr × Obj)} {σ : L2.St} {H : Hp} {s : Shared} {a C d f : Addr} {fs : List (Str × V)} {fl arg : Str} {fd : FuncData}
theorem inv_xfold (I : Inv X pins σ H s) (ea : H a = some (exo a C (some d))) (ed : H d = some (exd d fs)) : Inv X pins σ (upd (upd H d (.xd fs)) a (ExV C a (some d))) s := by
  obtain ⟨t0, hoe⟩ := exo_at I.hok ea
  obtain ⟨mA, hns, rel⟩ := exd_at I.hok ed
  have na : ∀ {b : Addr}, H b = none → b ≠ a := fun {b} n z => by
    rw [z, ea] at n
    cases n
  have nd : ∀ {b : Addr}, H b = none → b ≠ d := fun {b} n z => by
    rw [z, ed] at n
    cases n
  refine I.un (t' := s.toks) (h' := s.heap) ⟨fun b o q n _ _ => q, fun b o q n _ _ => ⟨o.slots, q⟩, fun b o q n _ => by rw [upd_ne (na n), upd_ne (nd n)]; exact n, fun b o q _ => ⟨o, q⟩,
    fun b xs q => by rw [upd_ne (at_ne ea q exo_tup), upd_ne (at_ne ed q exd_tup)]; exact q, fun b o v q => by rw [upd_ne (at_ne ea q exo_frz), upd_ne (at_ne ed q exd_frz)]; exact q,
    fun b ps q => ⟨#[], by rw [upd_ne (at_ne ea q exo_tbl), upd_ne (at_ne ed q exd_tbl), q]; simp⟩⟩ fun b u q => ?_
  by_cases hb : b = a
  · subst hb
    rw [upd_same] at q
    cases q
    exact exv_ok hoe ⟨rfl, rfl⟩ rfl
  · rw [upd_ne hb] at q
    by_cases hbd : b = d
    · subst hbd
      rw [upd_same] at q
      cases q
      exact ⟨mA, hns, rel⟩
    · rw [upd_ne hbd] at q
      exact (I.hok b u q).stay (fun _ _ _ k => k) (fun c hc => by rw [upd_ne (at_ne ea hc exo_own), upd_ne (at_ne ed hc exd_own)]; exact hc) fun c xs hc => by rw [upd_ne (at_ne ea hc exo_tup), upd_ne (at_ne ed hc exd_tup)]; exact hc
/-- the class at C, called x, is made by its __init__ at f -/
structure Xmd (P : Program) (K : PySem.W.Frag) (mg : Str → Option Value) (C : Addr) (x fl arg : Str) : Prop where
  hm : mg x = some (.ref C)
  ini : ∃ (f : Addr) (fd : FuncData), IniOk P K mg C f fl arg fd ∧ PySem.W.findIn K (.ref C) "__init__" = some (some (.ref f)) ∧ PySem.W.typeIn K (.ref f) = some (.type "function")
theorem run_mkx {x : Str} {Q : VK} {us : List Value} {kw : List (Str × Value)} {v : V} {u : Value} (D : Xmd X.prog X.K X.mg C x fl arg) (hr : Room 2 X.A) (I : Inv X pins σ H s) (rv : RelV v u) (hz : (us = [u] ∧ kw = []) ∨ (us = [] ∧ kw = [(arg, u)]))
    (q : ∀ a d, H a = none → H d = none → d ≠ a → Q (.ref a) (upd (upd H d (.xd [(fl, v)])) a (ExV C a (some d)))) : wpAny (model X.prog X.w) X.A (call (.ref C) us kw) (EP X pins σ Q) X.xe s := by
  obtain ⟨f, fd, IO, iC, tI⟩ := D.ini
  have T := IO.ox
  obtain ⟨nm, qq, N, bs, bm, sn, sub, ab, col, dd, k0, k1, k2, k3, k5, hC, hbm⟩ := T.cls
  have F1 : FnOk X.prog X.w X.K X.mg X.base (fun _ _ _ _ _ _ => False) 1 f fd ["self", arg] (spIni C fl) := ini_ok IO
  obtain ⟨hp, g, dr, tk, os⟩ := s
  have hsz : hp.objs.size ≤ hp.objs.size + 1 := Nat.le_succ _
  have hn : H (hp.objs.size + 1) = none := I.hok.fresh hsz
  have kk : ∀ b o, hp.get? b = some o → ((hp.push (PySem.W.kdv_tup us)).push (PySem.HandSPX.excO C hp.objs.size)).get? b = some o := fun b o e => Heap.get?_push_of_some _ (Heap.get?_push_of_some _ e)
  have hget : ((hp.push (PySem.W.kdv_tup us)).push (PySem.HandSPX.excO C hp.objs.size)).get? (hp.objs.size + 1) = some (PySem.HandSPX.excO C hp.objs.size) := by heap_get
  have I2 : Inv X pins σ (upd H (hp.objs.size + 1) (exo (hp.objs.size + 1) C none)) ⟨(hp.push (PySem.W.kdv_tup us)).push (PySem.HandSPX.excO C hp.objs.size), g, dr, tk, os⟩ :=
    I.laid (t' := tk) (a := hp.objs.size + 1) (o := exo (hp.objs.size + 1) C none) (h' := (hp.push (PySem.W.kdv_tup us)).push (PySem.HandSPX.excO C hp.objs.size)) kk hsz (exo_ok hget)
  have r2 : Vals [V.ref (hp.objs.size + 1), v] [Value.ref (hp.objs.size + 1), u] := .cons rfl (.cons rv .nil)
  have hus : us.length ≤ sizeLine := by
    rw [sizeLine_eq]
    rcases hz with ⟨rfl, _⟩ | ⟨rfl, _⟩ <;> simp
  have hb : ∀ s : Shared, BindsTo s fd ⟨Value.ref (hp.objs.size + 1) :: us, kw⟩ ((["self", arg] : List Str).zip [Value.ref (hp.objs.size + 1), u]) := fun s => by
    rcases hz with ⟨rfl, rfl⟩ | ⟨rfl, rfl⟩
    · exact (IO.bd s _ _).1
    · exact (IO.bd s _ _).2
  refine wpAny_call (call_ownK F.excBase_ValueError (fun Y => PySem.HandSPX.refsVE_contains Y bm hbm) (I.kIn _ _ hC) (PySem.W.looks_findIn I.kIn iC) (fun self => PySem.W.bind_fn I.kIn self tI) hus
    (codeAny_mono (F1.run _ X.stack _ _ ⟨Value.ref (hp.objs.size + 1) :: us, kw⟩ _ _ (fun v' H2 => v' = .non ∧ ∃ dx, H dx = none ∧ dx ≠ hp.objs.size + 1 ∧ H2 = upd (upd (upd H (hp.objs.size + 1) (exo (hp.objs.size + 1) C none)) dx (exd dx [(fl, v)])) (hp.objs.size + 1) (exo (hp.objs.size + 1) C (some dx))) (fun _ _ _ => False)
      ((hr.make C us kw)) (I2.env0.make C us kw) (hb _) r2 ⟨_, _, rfl, upd_same, fun dx n ne => ⟨rfl, dx, by rw [upd_ne ne] at n; exact n, ne, rfl⟩⟩) fun r s' hq' => ?_))
  cases r with
  | error er => exact hq'.elim
  | ok fw =>
    cases fw with
    | ret u' =>
      obtain ⟨v', H2, I3, rv', ev, dx, nx, ne, eH⟩ := I2.after hq'
      subst ev
      subst eH
      have J := inv_xfold (a := hp.objs.size + 1) (C := C) (d := dx) (fs := [(fl, v)]) I3 upd_same (by rw [upd_ne ne, upd_same])
      refine ⟨rv', .ref (hp.objs.size + 1), _, J, rfl, ?_⟩
      have eq : upd (upd (upd (upd (upd H (hp.objs.size + 1) (exo (hp.objs.size + 1) C none)) dx (exd dx [(fl, v)])) (hp.objs.size + 1) (exo (hp.objs.size + 1) C (some dx))) dx (.xd [(fl, v)])) (hp.objs.size + 1) (ExV C (hp.objs.size + 1) (some dx)) =
          upd (upd H dx (.xd [(fl, v)])) (hp.objs.size + 1) (ExV C (hp.objs.size + 1) (some dx)) := by
        funext b
        by_cases hb : b = hp.objs.size + 1
        · rw [hb, upd_same, upd_same]
        · rw [upd_ne hb, upd_ne hb]
          by_cases hd : b = dx
          · rw [hd, upd_same, upd_same]
          · rw [upd_ne hd, upd_ne hb, upd_ne hd, upd_ne hb, upd_ne hd]
      rw [eq]
      exact q _ _ hn nx ne
    | next => exact False.elim hq'
    | brk => exact False.elim hq'
    | cont => exact False.elim hq'
end
/-! ### readings -/
def dMkX (c0 : Nat) (fl : Str) (ts : TDs) : TD := fun ρ h => (ts ρ h).bind fun ds h => match ds with
  | [d] => .ok (.exc c0 [(fl, d)]) h
  | _ => .no
def tMkX (C : Addr) (fl : Str) (t : TA) : TE := fun σ H Q => t σ H fun vs H1 => ∃ v, vs = [v] ∧ ∀ a d, H1 a = none → H1 d = none → d ≠ a → Q (.ref a) (upd (upd H1 d (.xd [(fl, v)])) a (ExV C a (some d)))
section
variable {X : Cx} {K : PySem.W.Frag} {CA : CAs} {W : WX} {e : Expr} {kws : List Keyword} {pos p : Pos} {hs : TA} {ts : TDs} {x fl arg : Str} {c0 : Nat}
theorem sim_mkx (s : SimA K CA W hs ts) : SimE K CA W (tMkX (CA c0) fl hs) (dMkX c0 fl ts) := fun m h H σ ρ Q' S t =>
  s m h H σ ρ _ S (t.bind fun ds h1 m1 vs H1 s1 S1 r1 t1 => by
    split at t1
    · rename_i d
      cases r1 with
      | @cons v _ _ _ r1 r2 =>
        cases r2
        refine ⟨_, rfl, fun a dx na nd ne => ?_⟩
        have n2 : upd H1 dx (.xd [(fl, v)]) a = none := by rw [upd_ne (Ne.symm ne)]; exact na
        have sA := stp_laid (u := .xd [(fl, v)]) S1 nd
        have SA := S1.laid (u := .xd [(fl, v)]) nd
        exact t1 m1 _ _ (sA.trans (stp_laid (u := ExV (CA c0) a (some dx)) SA n2)) (SA.laid n2) (.exc (fs := [(fl, v)]) (S1.fresh na) upd_same (.inr ⟨dx, rfl, S1.fresh nd, by rw [upd_ne ne, upd_same]⟩) rfl (.cons ((r1.move sA).move (stp_laid SA n2)) .nil))
    · exact t1.elim)
/-- C(e) -/
theorem we_mkx (D : Xmd X.prog X.K X.mg (CA c0) x fl arg) (hr : Room 2 X.A) (h : WA X K CA W [e] hs ts) (hg : Gl X x := by rfl) (hK : X.K = K := by rfl)
    (hdb : (x == ("__debug__" : Str)) = false := by decide) (he : starEach [e] X.env = (false, eval e X.env) :: starEach [] X.env := by rfl) (hpl : (backTo pos (starEach [] X.env)).any (·.1) = false := by rfl) :
    WE X K CA W (.Call (.Name x p) [e] [] pos) (tMkX (CA c0) fl hs) (dMkX c0 fl ts) := by
  subst hK
  obtain ⟨_, _, IO, _, _⟩ := id D.ini
  refine ⟨⟨fun pins s σ H Q I hq => wpAny_Call_Name_kw (ld_glob I hg D.hm ?_ hdb)⟩, sim_mkx h.sim⟩
  refine PySem.W.callWith_K (h₀ := X.base) I.ok.mod.kin IO.ox.kC (thn (h.pe.run pos pins s σ H _ I hq) fun us s1 ⟨vs, H1, I1, r, v, ev, q⟩ => ⟨I1.kIn, ?_⟩) he hpl
  subst ev
  obtain ⟨u, rfl, ru⟩ := vals1 r
  exact run_mkx D hr I1 ru (.inl ⟨rfl, rfl⟩) q
/-- C(arg=e) -/
theorem we_mkxK (D : Xmd X.prog X.K X.mg (CA c0) x fl arg) (hr : Room 2 X.A) (h' : WK X K CA W kws hs ts) (hg : Gl X x := by rfl) (hK : X.K = K := by rfl)
    (hall : (backToKw pos (keywordEach kws X.env)).all (·.1.isSome) = true := by rfl) (hks : (backToKw pos (keywordEach kws X.env)).filterMap (·.1) = [arg] := by rfl) (hdb : (x == ("__debug__" : Str)) = false := by decide)
    (hpl : ((backTo pos (starEach [] X.env)).any (·.1) || (backToKw pos (keywordEach kws X.env)).any (·.1.isNone)) = false := by rfl) :
    WE X K CA W (.Call (.Name x p) [] kws pos) (tMkX (CA c0) fl hs) (dMkX c0 fl ts) := by
  subst hK
  obtain ⟨_, _, IO, _, _⟩ := id D.ini
  refine ⟨⟨fun pins s σ H Q I hq => wpAny_Call_Name_kw (ld_glob I hg D.hm ?_ hdb)⟩, sim_mkx h'.sim⟩
  refine PySem.W.callWith_KW0 (h₀ := X.base) I.ok.mod.kin IO.ox.kC hall (thn (h'.pe.run pos pins s σ H _ I hq) fun ws s1 ⟨zs, H1, I1, rz, v, ev, q⟩ => ⟨I1.kIn, ?_⟩) hpl
  rw [hks]
  subst ev
  obtain ⟨u, rfl, ru⟩ := vals1 rz
  exact run_mkx D hr I1 ru (.inr ⟨rfl, rfl⟩) q
end
end CM
namespace CM
open PySem PySem.Spec PySem.Calls PyProof.Rows L2
abbrev veBm : List Value := [.type "ValueError", .type "Exception", .type "BaseException", .type "object"]
/-- the class at C, called x, has no __init__ -/
structure Xmo (K : PySem.W.Frag) (mg : Str → Option Value) (C : Addr) (x : Str) : Prop where
  hm : mg x = some (.ref C)
  q : PySem.W.excIn K C veBm "ValueError.__new__" = true
  k : PySem.W.keepIn K (.ref C) = true
def dMkX0 (c0 : Nat) (ts : TDs) : TD := fun ρ h => (ts ρ h).bind fun ds h => match ds with
  | [d] => .ok (.exc c0 []) h
  | _ => .no
def tMkX0 (C : Addr) (t : TA) : TE := fun σ H Q => t σ H fun vs H1 => ∃ v, vs = [v] ∧ ∀ a, H1 a = none → Q (.ref a) (upd H1 a (ExV C a none))
section
variable {X : Cx} {K : PySem.W.Frag} {CA : CAs} {W : WX} {e : Expr} {kws : List Keyword} {pos p : Pos} {hs : TA} {ts : TDs} {x fl arg : Str} {c0 : Nat}
theorem sim_mkx0 (s : SimA K CA W hs ts) : SimE K CA W (tMkX0 (CA c0) hs) (dMkX0 c0 ts) := fun m h H σ ρ Q' S t =>
  s m h H σ ρ _ S (t.bind fun ds h1 m1 vs H1 s1 S1 r1 t1 => by
    split at t1
    · rename_i d
      cases r1 with
      | @cons v _ _ _ r1 r2 =>
        cases r2
        exact ⟨_, rfl, fun a na => PostG.laid t1 S1 na (.exc (fs := []) (S1.fresh na) upd_same (.inl ⟨rfl, rfl⟩) rfl .nil)⟩
    · exact t1.elim)
/-- C(e), C without __init__ -/
theorem we_mkx0 (D : Xmo X.K X.mg (CA c0) x) (h : WA X K CA W [e] hs ts) (hg : Gl X x := by rfl) (hK : X.K = K := by rfl)
    (hdb : (x == ("__debug__" : Str)) = false := by decide) (he : starEach [e] X.env = (false, eval e X.env) :: starEach [] X.env := by rfl) (hpl : (backTo pos (starEach [] X.env)).any (·.1) = false := by rfl) :
    WE X K CA W (.Call (.Name x p) [e] [] pos) (tMkX0 (CA c0) hs) (dMkX0 c0 ts) := by
  subst hK
  refine ⟨⟨fun pins s σ H Q I hq => wpAny_Call_Name_kw (ld_glob I hg D.hm ?_ hdb)⟩, sim_mkx0 h.sim⟩
  refine PySem.W.callWith_K (h₀ := X.base) I.ok.mod.kin D.k (thn (h.pe.run pos pins s σ H _ I hq) fun us s1 ⟨vs, H1, I1, r, v, ev, q⟩ => ⟨I1.kIn, ?_⟩) he hpl
  subst ev
  obtain ⟨u, rfl, ru⟩ := vals1 r
  show wpAny _ _ (call (.ref (CA c0)) [u]) _ _ _
  obtain ⟨bm, N, nm, qn, bs, hdct, sn, sub, ab, col, dd, k0, k1, k2, k3, k5, mN, hC, hN, hni, T⟩ := exc_obj I1.kIn D.q
  refine wpAny_call_exc_subT F.excBase_ValueError T hC hN hni (fun h' a hm => ?_) (by show 1 ≤ sizeLine; rw [sizeLine_eq]; omega)
  have hn : H1 a = none := I1.hok.gone hm.new
  obtain ⟨t, ht, _, _⟩ := hm.there
  exact ⟨.ref a, upd H1 a (ExV (CA c0) a none), I1.laidN hm.keeps hm.new hn (exv_ok ht ⟨rfl, rfl⟩ rfl), rfl, q a hn⟩
end
/-! ### fields -/
/-- err.n may be read -/
def XfOf (K : PySem.W.Frag) (CA : CAs) (cs : List Nat) (n : Str) : Prop := ∀ c ∈ cs, XfC K (CA c) ∧ PySem.W.findIn K (.ref (CA c)) n = some none
def fXf (cs : List Nat) (n : Str) : F1 := fun d h => match d with
  | .exc c fs => if c ∈ cs then (match fs.lookup n with
    | some v => .ok v h
    | none => .no) else .no
  | _ => .no
def tXfv (K : PySem.W.Frag) (n : Str) (te : TE) : TE := fun σ H Q => te σ H fun x H1 => ∃ a C dd fs v, x = .ref a ∧ H1 a = some (ExV C a (some dd)) ∧ H1 dd = some (.xd fs) ∧ XfC K C ∧ PySem.W.findIn K (.ref C) n = some none ∧ fs.lookup n = some v ∧ Q v H1
section
variable {X : Cx} {K : PySem.W.Frag} {CA : CAs} {W : WX} {e : Expr} {pos : Pos} {te : TE} {ta : TD} {n : Str} {cs : List Nat} {s : Shared} {σ : L2.St} {H : Hp} {pins : List (Addr × Obj)}
theorem exv_inst {C a : Addr} {dd : Option Addr} (I : Inv X pins σ H s) (e : H a = some (ExV C a dd)) (hd : dd = none ∨ ∃ x fs, dd = some x ∧ H x = some (.xd fs)) : ∃ oe od, PySem.W.InstAt s.heap a oe C od ∧
    ∀ x fs, dd = some x → H x = some (.xd fs) → ∃ (mA : Str → Option Value) (ob : Obj), od = some ob ∧ (∀ y, RelO (fs.lookup y) (mA y)) ∧ ∀ n, PySem.W.lookIn n ob = some (mA n) := by
  obtain ⟨⟨oe, vs, ho, hz, hdt⟩, _, _⟩ := I.hok a _ e
  have nc : PySem.W.notCls oe = true := by unfold PySem.W.notCls; rw [hdt] <;> rfl
  rcases hd with rfl | ⟨x, fs, rfl, ex⟩
  · exact ⟨oe, none, ⟨ho, hz.1, nc, by rw [hz.2]; trivial⟩, fun x fs e => by cases e⟩
  · obtain ⟨mA, hns, hr⟩ := (show ObjOk X.prog X.w H s.heap x (.xd fs) from I.hok x _ ex)
    obtain ⟨od, hod, hl⟩ := lookIn_ns hns
    refine ⟨oe, some od, ⟨ho, hz.1, nc, by rw [hz.2]; exact hod⟩, fun x' fs' e1 e2 => ?_⟩
    cases e1
    rw [ex] at e2
    cases e2
    exact ⟨mA, od, rfl, hr, hl⟩
theorem we_xf (hf : XfOf K CA cs n) (x : WE X K CA W e te ta) (hb : attributeBase e n X.env (eval e X.env) = eval e X.env := by rfl) (hK : X.K = K := by rfl) : WE X K CA W (.Attribute e n pos) (tXfv K n te) (dUn (fXf cs n) ta) := by
  subst hK
  refine ⟨⟨fun pins s σ H Q I h => ?_⟩, fun m h H σ ρ Q' S t => x.sim m h H σ ρ _ S (t.bind fun d h1 m1 v H1 s1 S1 r1 t1 => ?_)⟩
  · refine attr_of hb (thn (x.pe.run pins s σ H _ I h) fun u s1 hh => ?_)
    obtain ⟨x, H1, I1, rx, a, C, dd, fs, v, ex, ea, ed, T, hno, l, q⟩ := hh
    subst ex
    obtain rfl : u = Value.ref a := rx
    obtain ⟨oe, od, J, g⟩ := exv_inst I1 ea (.inr ⟨dd, fs, rfl, ed⟩)
    obtain ⟨mA, ob, rfl, hr, hl⟩ := g _ _ rfl ed
    obtain ⟨u, hu, ru⟩ := RelO.some_of (v := v) (o := mA n) (by rw [← l]; exact hr n)
    exact HandSPX.exc_get I1.kIn J T.ga T.gg T.exC (PySem.W.findObj_own T.hdC hno rfl (by rw [hl, hu])) (handed_of ru) ⟨v, H1, I1.tok _, ru, q⟩
  · unfold fXf at t1
    split at t1
    · rename_i c fs
      by_cases hc : c ∈ cs
      · rw [if_pos hc] at t1
        split at t1
        · rename_i y el
          cases r1 with
          | exc na ea hd en ra =>
            obtain ⟨v, hv, rv⟩ := rp_look en ra el
            rcases hd with ⟨rfl, rfl⟩ | ⟨x, rfl, nx, ex⟩
            · cases hv
            · exact ⟨_, _, _, _, v, rfl, ea, ex, (hf c hc).1, (hf c hc).2, hv, t1.here S1 rv⟩
        · exact t1.elim
      · rw [if_neg hc] at t1; exact t1.elim
    · exact t1.elim
end
/-! ### isinstance -/
structure XkC (K : PySem.W.Frag) (C : Addr) : Prop where
  cl : (PySem.W.clsIn K C).isSome = true
  ga : PySem.W.findIn K (.ref C) "__getattribute__" = some (some (.builtin "BaseException.__getattribute__"))
  gg : PySem.W.findIn K (.ref C) "__getattr__" = some none
  ex : PySem.W.subIn K (.ref C) (.type "BaseException") = some true
  ca : PySem.W.findIn K (.ref C) "__class__" = some (some (.builtin "object.__class__"))
  sp : PySem.W.specialIn K (.builtin "object.__class__") "__get__" = some (some (.builtin "getset_descriptor.__get__"))
  tk : PySem.W.takesIn K (.builtin "object.__class__") = some true
  ob : PySem.W.mroIn K C (.type "object") = some true
def fIsX (xs own : List Nat) (kt : KT) : FD := fun ds h => match ds with
  | [.exc c fs, t] => match clsOf t with
    | some b => if c ∈ xs then (match kt (.o c) b with
      | some r => .ok (.bl r) h
      | none => .no) else .no
    | none => .no
  | _ => fIsi own kt ds h
def rIsX (K : PySem.W.Frag) : List V → Hp → VK → Prop := fun xs H Q => ∃ (a C : Addr) (c : V) (u : Value) (dd : Option Addr) (b : Bool), xs = [.ref a, c] ∧ ClsV c u ∧ H a = some (ExV C a dd) ∧ (dd = none ∨ ∃ x fs, dd = some x ∧ H x = some (.xd fs)) ∧ XkC K C ∧ PySem.W.kitOne K (.ref C) u = some b ∧ Q (.bl b) H
section
variable {X : Cx} {K : PySem.W.Frag} {CA : CAs} {xs own : List Nat} {kt : KT}
theorem call_isX0 : CallR X (.builtin "isinstance") (rIsX X.K) := by
  intro pins s σ H xs us Q I r h
  obtain ⟨a, C, c, u, dd, b, rfl, k, ea, hd, T, e, q⟩ := h
  obtain ⟨u1, u2, rfl, r1, r2⟩ := vals2 r
  have e2 := k.eq r2
  subst e2
  obtain rfl : u1 = Value.ref a := r1
  obtain ⟨oe, od, J, _⟩ := exv_inst I ea hd
  exact PySem.W.kia_one (PySem.W.kitx_exc (ox := oe) (od := od) T.cl T.ga T.gg T.ex T.ca T.sp T.tk T.ob) I.kIn J e (fun z => by cases z) fun tk => ⟨.bl b, H, I.tok tk, rfl, q⟩
def rIsXU (K : PySem.W.Frag) : List V → Hp → VK → Prop := fun xs H Q => rIsX K xs H Q ∨ rIsi K xs H Q
theorem call_isX (hK : X.K = K := by rfl) : CallR X (.builtin "isinstance") (rIsXU K) := by subst hK; exact call_isX0.or call_isi
theorem sim_isX (hx : ∀ c ∈ xs, XkC K (CA c)) (kk : KtOk K CA own kt) : SimC K CA (rIsXU K) (fIsX xs own kt) := by
  intro W σ m h H ys ds Q' S r t
  unfold fIsX at t
  split at t
  · split at t
    · rename_i b eb
      obtain ⟨ok, t⟩ := post_ite t
      split at t
      · rename_i r' ek
        cases r with
        | cons r1 r2 => cases r2 with
          | cons r2 r3 =>
            cases r3
            cases r1 with
            | exc na ea hd en ra =>
              refine .inl ⟨_, _, _, _, _, _, rfl, rp_cls r2 eb, ea, ?_, hx _ ok, kk.one _ _ _ ek, t.here S (.bl _)⟩
              rcases hd with ⟨rfl, _⟩ | ⟨x, rfl, _, ex⟩
              · exact .inl rfl
              · exact .inr ⟨x, _, rfl, ex⟩
      · exact t.elim
    · exact t.elim
  · exact .inr (sim_isi kk W σ m h H ys ds Q' S r t)
end
end CM
/-! checks for own exceptions; raise -/
namespace CM
open PySem PySem.Spec PySem.Calls PyProof.Rows L2
def excB (K : PySem.W.Frag) (C : Addr) : Bool :=
  (PySem.W.clsIn K C).isSome && (decide (PySem.W.findIn K (.ref C) "__getattribute__" = some (some (.builtin "BaseException.__getattribute__"))) && (decide (PySem.W.findIn K (.ref C) "__getattr__" = some none) && (decide (PySem.W.subIn K (.ref C) (.type "BaseException") = some true) &&
  (decide (PySem.W.findIn K (.ref C) "__class__" = some (some (.builtin "object.__class__"))) && (decide (PySem.W.specialIn K (.builtin "object.__class__") "__get__" = some (some (.builtin "getset_descriptor.__get__"))) && (decide (PySem.W.takesIn K (.builtin "object.__class__") = some true) &&
  (decide (PySem.W.mroIn K C (.type "object") = some true) && (PySem.W.hasDictIn K C && (decide (PySem.W.typeIn K (.ref C) = some (.type "type")) && PySem.W.keepIn K (.ref C))))))))))
structure ExcOk (K : PySem.W.Frag) (C : Addr) : Prop extends XkC K C where
  hd : PySem.W.hasDictIn K C = true
  ty : PySem.W.typeIn K (.ref C) = some (.type "type")
  kp : PySem.W.keepIn K (.ref C) = true
theorem excB_ok {K : PySem.W.Frag} {C : Addr} (h : excB K C = true) : ExcOk K C := by
  unfold excB at h
  simp only [Bool.and_eq_true, decide_eq_true_eq] at h
  obtain ⟨h1, h2, h3, h4, h5, h6, h7, h8, h9, h10, h11⟩ := h
  exact ⟨⟨h1, h2, h3, h4, h5, h6, h7, h8⟩, h9, h10, h11⟩
theorem ExcOk.xf {K : PySem.W.Frag} {C : Addr} (h : ExcOk K C) : XfC K C := ⟨h.ga, h.gg, h.ex, h.hd⟩
theorem xfOf_by {K : PySem.W.Frag} {CA : CAs} {cs : List Nat} {n : Str} (h : ∀ c ∈ cs, ExcOk K (CA c)) (h2 : (cs.all fun c => decide (PySem.W.findIn K (.ref (CA c)) n = some none)) = true) : XfOf K CA cs n := fun c hc => ⟨(h c hc).xf, of_decide_eq_true (List.all_eq_true.mp h2 c hc)⟩
/-- the class object of an own exception -/
def oexClsB (K : PySem.W.Frag) (C : Addr) : Bool := match K.lookup C with
  | some ⟨.type "type", _, .cls cd, sl⟩ => (match cd.mro, sl.toList with
    | .ref C' :: bm, [_, _, _, _, some (.builtin n), _] => C' == C && (n == "ValueError.__new__" && (!cd.hasDel && (cd.hasDict && PySem.HandSPX.refsVE bm)))
    | _, _ => false)
  | _ => false
theorem oexClsB_ok {K : PySem.W.Frag} {C : Addr} (q : oexClsB K C = true) : ∃ nm q N bs bm sn sub ab col dd k0 k1 k2 k3 k5, K.lookup C = some (excClassObj nm q C N bs bm true sn sub ab col dd k0 k1 k2 k3 k5 "ValueError.__new__") ∧ PySem.HandSPX.refsVE bm = true := by
  unfold oexClsB at q
  split at q
  · rename_i dd cd sl ho
    split at q
    · rename_i C' bm k0 k1 k2 k3 n k5 hm hs
      simp only [Bool.and_eq_true, beq_iff_eq, Bool.not_eq_true'] at q
      obtain ⟨rfl, rfl, hdel, hd, hv⟩ := q
      obtain ⟨nm, bs, mro, ns, qn, hd', sn, sub, ab, col, del⟩ := cd
      dsimp only at hm hdel hd
      subst hm
      subst hdel
      subst hd
      refine ⟨nm, qn, ns, bs, bm, sn, sub, ab, col, dd, k0, k1, k2, k3, k5, ?_, hv⟩
      rw [ho]
      have : sl = #[k0, k1, k2, k3, some (.builtin "ValueError.__new__"), k5] := by
        apply Array.ext'
        rw [hs]
      rw [this]
    · cases q
  · cases q
def iniB (K : PySem.W.Frag) (C : Addr) (fl : Str) : Bool :=
  oexClsB K C && (decide (PySem.W.findIn K (.ref C) "__setattr__" = some (some (.builtin "object.__setattr__"))) && (decide (PySem.W.ks_superIn K C C "__init__" = some (some (.builtin "ValueError.__init__"))) && (decide (PySem.W.subIn K (.ref C) (.type "ValueError") = some true) &&
  (decide (PySem.W.mroIn K C (.ref C) = some true) && (decide (PySem.W.nsIn K cStatics "thirdparty.any" = some none) && decide (PySem.W.findIn K (.ref C) fl = some none))))))
/-- the text of an exception's __init__ -/
def IniSh (st : Stmt) (fl arg : Str) : Prop := ∃ (txt : Str) (j : Nat) (p0 p1 p2 p3 p4 p5 q0 q1 q2 q3 : Pos), defBody st = iniBody txt fl arg j p0 p1 p2 p3 p4 p5 q0 q1 q2 q3 ∧ ∀ env : Env, ∃ pl : Sem Bool, IniEv txt j p0 p1 p2 p3 p4 env pl
theorem xmd_of {P : Program} {K : PySem.W.Frag} {mg : Str → Option Value} {C f cda cc : Addr} {x fl arg qual : Str} {st : Stmt} {dV kV doc pm ct oc ccl cl : Value} {an od cdd cld : Option Addr} {osl ccs csl : Array (Option Value)} {cvs : Array Value} {file : Str} {tf : Tok}
    (hm : mg x = some (.ref C)) (E : ExcOk K C) (ib : iniB K C fl = true) (su : mg "super" = none) (tp : (P.main.scope.names.lookup ("super" : Str)).isSome = false) (iC : PySem.W.findIn K (.ref C) "__init__" = some (some (.ref f))) (tI : PySem.W.typeIn K (.ref f) = some (.type "function"))
    (l : K.lookup f = some ⟨oc, od, .func (PySem.W.ksFn "__init__" qual (defArgs st) (defBody st) (defScope st) dV kV doc pm an (.ref cda) ct cc), osl⟩) (hcd : PySem.W.codeIn K (.ref cda) qual = true) (S : iniScB arg (defScope st) = true) (sh : IniSh st fl arg)
    (har : ∃ ar, ((defArgs st).posonlyargs ++ (defArgs st).args).head? = some ar ∧ ar.arg = ("self" : Str)) (lkc : K.lookup cda = some ⟨ccl, cdd, .fields cvs, ccs⟩) (cv2 : cvs[2]? = some (.str file tf)) (hfile : ((P.main.file : Str) == file) = true)
    (lc : K.lookup cc = some ⟨cl, cld, .cell (some (.ref C)), csl⟩)
    (bd : ∀ (s : Shared) (u v : Value), BindsTo s (PySem.W.ksFn "__init__" qual (defArgs st) (defBody st) (defScope st) dV kV doc pm an (.ref cda) ct cc) ⟨[u, v], []⟩ [("self", u), (arg, v)] ∧ BindsTo s (PySem.W.ksFn "__init__" qual (defArgs st) (defBody st) (defScope st) dV kV doc pm an (.ref cda) ct cc) ⟨[u], [(arg, v)]⟩ [("self", u), (arg, v)]) :
    Xmd P K mg C x fl arg := by
  unfold iniB at ib
  simp only [Bool.and_eq_true, decide_eq_true_eq] at ib
  obtain ⟨i1, i2, i3, i4, i5, i6, i7⟩ := ib
  obtain ⟨txt, j, p0, p1, p2, p3, p4, p5, q0, q1, q2, q3, hbd, hev⟩ := sh
  refine ⟨hm, f, _, ⟨⟨oexClsB_ok i1, i2, E.ex, E.ty, E.kp⟩, i3, i4, i5, i6, i7, su, tp, bd, qual, txt, j, p0, p1, p2, p3, p4, p5, q0, q1, q2, q3, _, _, dV, kV, doc, pm, ct, oc, an, od, osl, cda, cc, ?_, l, hcd, iniSc_by S, har, ⟨ccl, cdd, cvs, ccs, file, tf, lkc, cv2, hfile⟩, ⟨cl, cld, csl, lc⟩, hev⟩, iC, tI⟩
  rw [hbd]
theorem boot_ValueErrorU : bootBuiltins "ValueError" = some (.type "ValueError") := Boot.«ValueError»
/-! ### raise -/
/-- raise C(e) -/
def rxOf (ρ : DE) (c0 : Nat) (fl : Str) (ds : List CM.D) (h : CH) : RS := match ds with
  | [d] => .ex ρ c0 [(fl, d)] h
  | _ => .no
def dRaiseX (c0 : Nat) (fl : Str) (ts : TDs) : SD := fun ρ h => (ts ρ h).toS ρ (rxOf ρ c0 fl)
def dRaise0 (c0 : Nat) : SD := fun ρ h => .ex ρ c0 [] h
section
variable {X : Cx} {K : PySem.W.Frag} {CA : CAs} {W : WX} {e : Expr} {pos p pos' : Pos} {hs : TA} {ts : TDs} {x fl arg : Str} {c0 j : Nat} {m : Str}
def tRaiseX (W : WX) (C : Addr) (fl : Str) (ta : TA) : TS := fun _ σ H => tMkO C (spIni C fl) [] ta σ H (fun cls d H' => W cls d σ H')
theorem sim_raiseX (s : SimA K CA W hs ts) : SimS K CA W (tRaiseX W (CA c0) fl hs) (dRaiseX c0 fl ts) := fun m h H σ ρ D' S t => by
  refine s m h H σ ρ _ S ?_
  unfold dRaiseX at t
  cases er : ts ρ h with
  | no => rw [er] at t; exact t.elim
  | ex c fs h' =>
    rw [er] at t
    exact fun m' cls dd H' s' S' x => t m' cls dd σ H' s' (S.move s' S') x
  | ok ds h' =>
    rw [er] at t
    intro m1 vs H1 s1 S1 r1
    have t2 : PostS K CA W m h H D' (rxOf ρ c0 fl ds h') := t
    clear t
    unfold rxOf at t2
    split at t2
    · rename_i d
      cases r1 with
      | @cons v _ _ _ r1 r2 =>
        cases r2
        refine ⟨by simp, fun a na => ?_⟩
        refine ⟨a, v, rfl, upd_same, fun dx nd ne => ⟨rfl, dx, [(fl, v)], upd_same, by rw [upd_ne ne, upd_same], by rw [upd_ne ne] at nd; exact nd, ?_⟩⟩
        rw [upd_ne ne] at nd
        have eq : upd (del (upd (upd (upd H1 a (exo a (CA c0) none)) dx (exd dx [(fl, v)])) a (exo a (CA c0) (some dx))) a) dx (.xd [(fl, v)]) = upd H1 dx (.xd [(fl, v)]) := by
          funext b
          by_cases hd : b = dx
          · rw [hd, upd_same, upd_same]
          · rw [upd_ne hd, upd_ne hd]
            by_cases hb : b = a
            · rw [hb, del_same, na]
            · rw [del_ne hb, upd_ne hb, upd_ne hd, upd_ne hb]
        rw [eq]
        have sA := stp_laid (u := .xd [(fl, v)]) S1 nd
        have SA := S1.laid (u := .xd [(fl, v)]) nd
        exact t2 m1 _ _ _ _ (s1.trans sA) (S.move (s1.trans sA) SA) ⟨rfl, .inr ⟨dx, [(fl, v)], rfl, S1.fresh nd, upd_same, rfl, .cons (r1.move sA) .nil⟩⟩
    · exact t2.elim
theorem ws_raiseX (D : Xmd X.prog X.K X.mg (CA c0) x fl arg) (hr : Room 2 X.A) (tk' : Takes X W) (h : WA X K CA W [e] hs ts) (hc : X.calm = true := by rfl) (hg : Gl X x := by rfl) (hK : X.K = K := by rfl)
    (hdb : (x == ("__debug__" : Str)) = false := by decide) (he : starEach [e] X.env = (false, eval e X.env) :: starEach [] X.env := by rfl) (hpl : (backTo pos (starEach [] X.env)).any (·.1) = false := by rfl) :
    WS X K CA W (.Raise (some (.Call (.Name x p) [e] [] pos)) none pos') (tRaiseX W (CA c0) fl hs) (dRaiseX c0 fl ts) := by
  subst hK
  obtain ⟨f, fd, IO, iC, tI⟩ := D.ini
  refine ⟨?_, sim_raiseX h.sim⟩
  have F1 : FnOk X.prog X.w X.K X.mg X.base (fun _ _ _ _ _ _ => False) 1 f fd ["self", arg] (spIni (CA c0) fl) := ini_ok IO
  have bb : Binds X.K fd ["self", arg] [] := fun s us _ hl => by
    rw [List.append_nil] at hl ⊢
    match us, hl with
    | [u, v], _ => exact (IO.bd s u v).1
  exact ps_raise hc tk' (pmk_oex IO.ox iC tI F1 hr bb .nil (fun _ _ _ _ _ _ _ z => z.elim) hg D.hm h.pe hdb he hpl)
theorem ws_raise0 {txt : Str} {q1 : Pos} (D : Xmo X.K X.mg (CA c0) x) (E : ExcOk X.K (CA c0)) (tk' : Takes X W) (hc : X.calm = true := by rfl) (hg : Gl X x := by rfl) (hK : X.K = K := by rfl) (hdb : (x == ("__debug__" : Str)) = false := by decide) :
    WS X K CA W (.Raise (some (.Call (.Name x p) [.Constant (.str txt) j q1] [] pos)) none pos') (fun _ σ H => W (.ref (CA c0)) none σ H) (dRaise0 c0) := by
  subst hK
  exact ⟨ps_raise hc tk' (L2.pmk_own F.excBase_ValueError D.q D.hm D.k (raises_own E.ex E.ty) hg hdb), fun m h H σ ρ D' S t => t m _ _ σ H .refl S ⟨rfl, .inl ⟨rfl, rfl⟩⟩⟩
end
end CM
/-! a caught exception becomes a value -/
namespace CM
open PySem PySem.Spec PySem.Calls PyProof.Rows L2
/-- an exception of the class cls stands at a -/
def ExW (cls : Value) (a : Addr) (dd : Option Addr) : HO := .ext fun h => ∃ (oe : Obj) (vs : Array Value), h.get? a = some oe ∧ Zc cls dd oe ∧ oe.data = .fields vs
theorem exw_exv {C a : Addr} {dd : Option Addr} : ExW (.ref C) a dd = ExV C a dd := rfl
section
variable {X : Cx} {pins : List (Addr × Obj)} {σ : L2.St} {H : Hp} {s : Shared} {a : Addr} {cls : Value} {d : Option Addr} {oe : Obj}
theorem inv_track (I : Inv X pins σ H s) (ha : s.heap.get? a = some oe) (hz : Zc cls d oe) (hd : ∃ vs, oe.data = .fields vs) (na : H a = none) (n0 : X.s_0.heap.get? a = none) (nL : a ≠ X.env.locals) (np : ∀ p ∈ X.pn ++ pins, p.1 ≠ a) : Inv X pins σ (upd H a (ExW cls a d)) s := by
  obtain ⟨vs, hd⟩ := hd
  have ne0 : ∀ b o, X.s_0.heap.get? b = some o → b ≠ a := fun b o e z => by
    rw [z, n0] at e
    cases e
  refine ⟨I.ok, I.os, I.bare, ⟨I.base.keep, I.base.slot, fun b o e n hx => by rw [upd_ne (ne0 b o e)]; exact I.base.free b o e n hx, I.base.there, fun b xs e => ?_, fun b o u e => ?_, fun b ps e => ?_⟩, I.loc, I.cell, by rw [upd_ne (Ne.symm nL)]; exact I.free, fun x c e => ?_, fun p hp => ?_, fun b u e => ?_, I.len⟩
  · have q := I.base.tups b xs e
    rw [upd_ne (ne_of_none q na)]
    exact q
  · have q := I.base.frzs b o u e
    rw [upd_ne (ne_of_none q na)]
    exact q
  · obtain ⟨m, q⟩ := I.base.tbls b ps e
    exact ⟨m, by rw [upd_ne (ne_of_none q na)]; exact q⟩
  · have nc : c ≠ a := fun z => by
      obtain ⟨v, o, ho, hv⟩ := I.cell x c e
      rw [z, ha] at ho
      cases ho
      rw [hd] at hv
      cases hv
    rw [upd_ne nc]
    exact I.freeC x c e
  · obtain ⟨e, n, ne, nf, dd⟩ := I.pin p hp
    exact ⟨e, by rw [upd_ne (np p hp)]; exact n, ne, nf, dd⟩
  · by_cases hb : b = a
    · subst hb
      rw [upd_same] at e
      cases e
      exact ⟨⟨oe, vs, ha, hz, hd⟩, ⟨oe, ha⟩, fun _ _ ⟨o, v, q, r⟩ k => ⟨o, v, k o q, r⟩⟩
    · rw [upd_ne hb] at e
      exact (I.hok b u e).stay (fun _ _ _ k => k) (fun c hc => by rw [upd_ne (ne_of_none hc na)]; exact hc) fun c xs hc => by rw [upd_ne (ne_of_none hc na)]; exact hc
end
/-- what the clause 'except x as n: suite' wishes, the exception being tracked behind the suite -/
def wAsV (K : PySem.W.Frag) (c : Value) (i nl : Nat) (ts : Addr → Value → Option Addr → TS) (Wout : WX) (D : Ends) : WX := fun cls d σ H =>
  ∃ b, PySem.W.exmOne K cls c = some b ∧ (b = true → σ.length = nl → ∀ a, H a = none → ts a cls d { nx := fun σ' H' => D.nx (σ'.set i none) (upd H' a (ExW cls a d)), rt := fun _ _ => False, bk := fun _ _ => False, ct := fun _ _ => False } (σ.set i (some (.ref a))) H) ∧
    (b = false → Wout cls d σ H)
section
variable {X : Cx} {x n : Str} {c : Value} {i : Nat} {body suite : List Stmt} {b₀ : Stmt} {np pos pos' : Pos} {tb : WX → TS} {ts : Addr → Value → Option Addr → TS} {Wout : WX}
theorem ps_try_asV (hex : X.ex = []) (hs : X.stack = X.env :: X.outer) (hf : X.env.frame = some X.env.locals) (hN : X.N.Nodup) (hi : X.N[i]? = some n) (hln : X.env.kindOf n = some .local) (hc : Names X x c) (tk : Takes X Wout)
    (hb : ∀ (W : WX) (pn : List (Addr × Obj)) (xe : Value → Shared → Prop), Takes (X.tr pn xe) W → PassesOwn (model X.prog X.w) X.A X.env xe → PSs (X.tr pn xe) body (tb W))
    (hsu : ∀ (a : Addr) (oe : Obj) (cls : Value) (d : Option Addr) (pn : List (Addr × Obj)), Zc cls d oe → (∃ vs, oe.data = .fields vs) → PSs (X.suite a ((a, oe) :: pn)) (b₀ :: suite) (ts a cls d)) :
    PS X (.Try body [.ExceptHandler (some (.Name x np)) (some n) (b₀ :: suite) pos'] [] [] pos) (fun D σ H => tb (wAsV X.K c i X.N.length ts Wout D) D σ H) := by
  refine ⟨fun pins s σ H D I h => ?_⟩
  have ok := I.ok
  have hfr : X.A.frames = some (X.env :: X.outer) := by rw [ok.frames, hs]
  have hloc : Loc X.env.scope n := .inl hln
  refine wpAny_Try_except ?_
  refine wpAny_mono ((hb (wAsV X.K c i X.N.length ts Wout D) (X.pn ++ pins) (fun e s₁ => wpAny (model X.prog X.w) X.A (noteFrame e X.env) (fun _ s₂ => wpAny (model X.prog X.w) X.A (setFlight e none) (fun _ s₃ =>
    wpAny (model X.prog X.w) X.A (handleBy e X.env [.ExceptHandler (some (.Name x np)) (some n) (b₀ :: suite) pos']) (SP X pins D) X.xe s₃) X.xe s₂) X.xe s₁) (fun u s' xx => ?_) PassesOwn.looking).run [] s σ H D (I.toTry _) h) (fun f s1 hsp => ?_) (fun e s1 he => he)
  · -- the catch
    obtain ⟨a, B, sI, pins', σ', H', cls, d, rfl, J', nb, up, sky, na, os, ag, b, hb1, hyes, hno⟩ := xx
    have J : Inv X pins σ' H' sI := J'.ofTry ok
    have sky' : Sky B (X.env :: X.outer) a (Zc cls d) X.env.locals s'.heap := by rw [← hs]; exact sky
    show wpAny (model X.prog X.w) X.A (noteFrame (.ref a) X.env) _ _ _
    refine Sky.land Zc.steady hfr hf sky' fun h3 fl3 up3 => ?_
    have J3 : Inv X pins σ' H' { s' with heap := h3 } := J.landed nb fl3.1 (up.trans up3) os ag
    obtain ⟨oe3, vs3, he3, hz3, hd3⟩ := fl3.there
    have notFr : ∀ {h : Heap} {o : Obj} {vs : Array Value}, h.FunFrames B (X.env :: X.outer) → h.get? a = some o → o.data = .fields vs → a ∉ frs (X.env :: X.outer) := fun {h o vs} ff e dd hm => by
      obtain ⟨_, o', e', hnf⟩ := ff.mem hm
      rw [e] at e'; cases e'
      exact hnf _ dd
    have nfr := notFr fl3.2.2.1 he3 hd3
    have nL : a ≠ X.env.locals := fun z => nfr (List.mem_filterMap.mpr ⟨X.env, List.mem_cons_self, by rw [hf, z]⟩)
    have nF : a ∉ X.fs := fun hm => by
      obtain ⟨e, he, q⟩ := List.mem_filterMap.mp hm
      exact nfr (List.mem_filterMap.mpr ⟨e, List.mem_cons_of_mem _ he, q⟩)
    have nB : B.get? a = none := fl3.2.1
    have nI : sI.heap.get? a = none := by
      cases q : sI.heap.get? a with
      | none => rfl
      | some o =>
        have z := nb a o q (by rw [hs]; exact nfr)
        rw [nB] at z
        cases z
    have n0 : X.s_0.heap.get? a = none := by
      cases q : X.s_0.heap.get? a with
      | none => rfl
      | some o =>
        obtain ⟨o', z⟩ := J.base.there a o q (fun hx => by rw [hex] at hx; cases hx)
        rw [nI] at z
        cases z
    have nP : ∀ p ∈ X.pn ++ pins, p.1 ≠ a := fun p hp z => by
      obtain ⟨e, _⟩ := J.pin p hp
      rw [z, nI] at e
      cases e
    have S3 := J3.suite he3 hd3 na nL nF
    refine wpAny_handleBy_cons (codeAny_handlers_test ?_) (by intro q; cases q)
    have LT : PySem.W.Looks (model X.prog X.w) h3 (typeOf (.ref a)) cls := fun A Q E s k q => wpAny_typeOf_ref (k _ _ he3) (by rw [hz3.1]; exact q)
    have LM := PySem.W.exm_one (M := model X.prog X.w) (J3.kIn) LT hb1
    have test : ∀ {Q : Value → Shared → Prop} {E : Value → Shared → Prop}, Q c { s' with heap := h3 } → wpAny (model X.prog X.w) (X.A.mark (some (.ref a))) (eval (.Name x np) X.env) Q E { s' with heap := h3 } := fun {Q E} q => by
      obtain ⟨hg, hdbg, hm | ⟨hm, hv, hnn⟩⟩ := hc
      · exact ld_glob (X := X.suite a ((a, oe3) :: (X.pn ++ pins))) S3 hg hm q hdbg
      · exact ld_blt (X := X.suite a ((a, oe3) :: (X.pn ++ pins))) S3 hg hm hv q hnn hdbg
    refine test (LM.here ?_)
    cases b with
    | true =>
      refine codeAny_handlers_suite_as ?_
      refine HandSPX.lands_againZ fl3 fun h4 fl4 up4 => ?_
      have J4 : Inv X pins σ' H' { s' with heap := h4 } := J.landed nb fl4.1 ((up.trans up3).trans up4) os ag
      obtain ⟨oe4, vs4, he4, hz4, hd4⟩ := fl4.there
      have S4 := J4.suite he4 hd4 na nL nF
      refine store_ok (X := X.suite a ((a, oe4) :: (X.pn ++ pins))) (v := .ref a) S4 hN hi hloc rfl (fun s5 S5 => ?_) (.inr hln)
      refine wpAny_mono ((hsu a oe4 cls d (X.pn ++ pins) hz4 ⟨_, hd4⟩).run [] s5 _ H' _ S5 (hyes rfl J.len a na)) (fun f s6 hsp => ?_) (fun _ _ z => False.elim z)
      cases f with
      | next =>
        obtain ⟨σ6, H6, S6, q6⟩ := hsp
        obtain ⟨e6, n6, _⟩ := S6.pin (a, oe4) (List.mem_append_left _ List.mem_cons_self)
        have T6 := inv_track (S6.unsuite ok) e6 hz4 ⟨_, hd4⟩ n6 n0 nL nP
        exact gone_ok T6 hN hi hln fun s7 J7 => ⟨_, _, J7, q6⟩
      | brk =>
        obtain ⟨σ6, H6, S6, q6⟩ := hsp
        exact q6.elim
      | cont =>
        obtain ⟨σ6, H6, S6, q6⟩ := hsp
        exact q6.elim
      | ret u =>
        obtain ⟨v6, σ6, H6, S6, r6, q6⟩ := hsp
        exact q6.elim
    | false =>
      show wpAny _ X.A (handleBy (.ref a) X.env []) _ _ _
      refine wpAny_handleBy_nil ?_
      obtain ⟨k1, k2, k3, oe, vs, T, oT, ts', he, hz, hd, h1, hr⟩ := id fl3
      unfold PySem.passOn
      refine wpAny_bind (wpAny_field he hd h1 ?_)
      rw [if_neg (show ¬ ((Value.ref T == Value.none) = true) from by simp)]
      have fin : wpAny (model X.prog X.w) X.A (setFlight (.ref a) X.env.frame) (fun _ s4 => wpAny (model X.prog X.w) X.A (throw (.ref a) : Sem Flow) (SP X pins D) X.xe s4) X.xe { s' with heap := h3 } := by
        rw [hf]
        refine HandSPX.setFlight_upZ fl3 fun h4 hh4 up4 => wpAny_throw (tk _ _ ?_)
        exact ⟨a, B, sI, pins, σ', H', cls, d, rfl, J, nb, (up.trans up3).trans up4, .inr (.inr (by rw [hs]; exact hh4)), na, os, ag, hno rfl⟩
      first
        | exact wpAny_bind (wpAny_pure (wpAny_bind fin))
        | exact wpAny_bind fin
  · cases f with
    | next =>
      obtain ⟨σ', H', J', q⟩ := hsp
      exact wpAny_execs_nil ⟨σ', H', J'.ofTry ok, q⟩
    | brk =>
      obtain ⟨σ', H', J', q⟩ := hsp
      exact ⟨σ', H', J'.ofTry ok, q⟩
    | cont =>
      obtain ⟨σ', H', J', q⟩ := hsp
      exact ⟨σ', H', J'.ofTry ok, q⟩
    | ret u =>
      obtain ⟨v, σ', H', J', r, q⟩ := hsp
      exact ⟨v, σ', H', J'.ofTry ok, r, q⟩
end
/-- c = None; try: a() / except e as n: c = n / return c -/
def TCaught (K : PySem.W.Frag) (CS : Addr) : (XK → Hp → VK → Prop) → Hp → VK → Prop := fun tl H Q =>
  tl (fun cls d H' => ∃ b, PySem.W.exmOne K cls (.ref CS) = some b ∧ (b = true → ∀ a, H' a = none → Q (.ref a) (upd H' a (ExW cls a d))) ∧ (b = false → False)) H (fun _ H' => ∃ v : V, (some (some V.non) : Option (Option V)) = some (some v) ∧ Q v H')
theorem caught_gives {X : Cx} {x a e q c n : Str} {sg : Scope} {g CS : Addr} {cdg : Value} {j1 : Nat} {p1 p2 p3 p4 p7 p8 q2 q3 q4 q5 q6 q7 q8 q9 : Pos} (hge : sg.names.lookup e = some .globalImplicit) (hme : X.mg e = some (.ref CS)) (hde : (e == ("__debug__" : Str)) = false)
    (S : FnScope [a, c, n] [a] sg) (hc : sg.names.lookup c = some .local) (hn : sg.names.lookup n = some .local) (hd1 : (c == ("__debug__" : Str)) = false) (hd2 : (n == ("__debug__" : Str)) = false) (hd3 : (c == ("__classdict__" : Str)) = false) (hd4 : (n == ("__classdict__" : Str)) = false) :
    LamX.GivesTo X [a, c, n] x sg g cdg [.Assign [.Name c q2] (.Constant .none j1 q3) q4, .Try [.Expr (.Call (.Name a p1) [] [] p2) p3] [.ExceptHandler (some (.Name e p4)) (some n) [.Assign [.Name c q5] (.Name n q6) q7] p7] [] [] p8, .Return (some (.Name c q8)) q9] a q (TCaught X.K CS) := by
  intro f c' s H Q tl act hcc h
  have hgl : Gl (cxOf C8.CX0 X.prog X.w X.K X.mg X.base [a, c, n] x sg g cdg X.A X.stack s H C8.E0).nox e := hge
  have nd := S.nd
  refine ⟨_, pss_cons (ps_set (i := 1) nd rfl (.inl hc) pe_non) (pss_cons (ps_try_asV (X := (cxOf C8.CX0 X.prog X.w X.K X.mg X.base [a, c, n] x sg g cdg X.A X.stack s H C8.E0).nox) (c := .ref CS) (i := 2)
      (tb := fun W D σ H => ∃ Ech : XK, (∀ cls d σ' H', Ech cls d H' → W cls d σ' H') ∧ σ[0]? = some (some (.ref f)) ∧ H c' = some (LamX.CodeO c' q) ∧ tl Ech H fun _ H' => D.nx σ H')
      rfl rfl rfl nd rfl hn ⟨hgl, hde, .inl hme⟩ LamX.takes0 (fun W pn xe tk _ => ?_) (fun a oe cls d pn _ _ => pss_one (ps_set (i := 1) nd rfl (.inl hc) (pe_var (i := 2) rfl (.inl hn) hd2 hd4)))) (pss_one (ps_ret (pe_var (i := 1) rfl (.inl hc) hd1 hd3)))), ?_⟩
  · refine ⟨fun pins s' σ H' D I h' => ?_⟩
    obtain ⟨Ech, hW, h1, h2, h3⟩ := h'
    have hp := act W pn xe Ech p1 p2 tk hW
    have hq := pss_one (ps_expr (pos := p3) hp)
    exact hq.run pins s' σ H' D I ⟨h1, h2, h3⟩
  · refine ⟨fun cls d H' => ∃ b, PySem.W.exmOne X.K cls (.ref CS) = some b ∧ (b = true → ∀ a, H' a = none → Q (.ref a) (upd H' a (ExW cls a d))) ∧ (b = false → False), fun cls d σ' H' ⟨b, e1, e2, e3⟩ => ⟨b, e1, fun hb hl a na => ?_, fun hb => e3 hb⟩, rfl, hcc, ?_⟩
    · have l1 : 1 < σ'.length := by rw [hl]; exact (by decide : 1 < 3)
      have l2 : 2 < σ'.length := by rw [hl]; exact (by decide : 2 < 3)
      refine ⟨.ref a, by simp [l2], .ref a, by simp [l1, l2], e2 hb a na⟩
    · exact h
/-! ### the reading -/
/-- _law_caught(lambda: e): the exception of the classes xs, or None -/
def dCaught (xs : List Nat) (tb : TD) : TD := fun ρ h => match tb ρ h with
  | .ok _ h' => .ok .non h'
  | .ex c fs h' => if c ∈ xs then .ok (.exc c fs) h' else .no
  | .no => .no
theorem stp_ext {K : PySem.W.Frag} {CA : CAs} {m : Mp} {h : CH} {H H1 : Hp} (S : HR K CA m h H) (e : LamX.ExtN H H1) (T : LamX.Tabs CA.T H1) : Stp m h H m h H1 ∧ HR K CA m h H1 := by
  have nt : ∀ {u : HO}, NoTb u → ∀ ps, u ≠ .tbl ps := fun {u} n ps z => by rw [z] at n; exact n
  have ntb : ∀ {u : HO}, NTab u → ∀ ps, u ≠ .tbl ps := fun {u} n ps z => by rw [z] at n; exact n
  have s : Stp m h H m h H1 := .mk' ⟨Nat.le_refl _, fun _ _ => rfl, fun b o l q n => ⟨l, o, e b o q (nt n), .inl rfl⟩⟩ (fun k o _ q _ => ⟨q, by
    obtain ⟨u, q1, n⟩ := mok_nt (S.ob k o q).2
    rw [q1, e _ _ q1 (ntb n)]⟩) rfl fun a l => by
    obtain ⟨u, q, n⟩ := S.zh a l
    rw [q, e _ _ q (ntb n)]
  refine ⟨s, fun k o q => ⟨(S.ob k o q).1, (S.ob k o q).2.move s ?_⟩, S.inj, S.zn, fun a l => ?_, T⟩
  · obtain ⟨u, q1, n⟩ := mok_nt (S.ob k o q).2
    rw [q1, e _ _ q1 (ntb n)]
  · obtain ⟨u, q, n⟩ := S.zh a l
    exact ⟨u, e _ _ q (ntb n), n⟩
section
variable {X : Cx} {K : PySem.W.Frag} {CA : CAs} {W : WX} {xs : List Nat} {cs : Nat} {t : XK → TE} {tb : TD}
theorem sim_caught (hx : ∀ c ∈ xs, PySem.W.exmOne K (.ref (CA c)) (.ref (CA cs)) = some true) (s : ∀ E : XK, SimE K CA (wxD E) (t E) tb) : SimE K CA W (LamX.tLam CA.T (TCaught K (CA cs)) t) (dCaught xs tb) := fun m h H σ ρ Q' S q => by
  refine ⟨S.hr.tb, fun H1 ex T1 => ?_⟩
  obtain ⟨s1, S1⟩ := stp_ext S.hr ex T1
  refine s _ m h H1 σ ρ _ (S.move s1 S1) ?_
  unfold dCaught at q
  cases er : tb ρ h with
  | no => rw [er] at q; exact q.elim
  | ok d h' =>
    rw [er] at q
    exact fun m' v H' s' S' r => ⟨.non, rfl, q m' .non H' (s1.trans s') S' .non⟩
  | ex c fs h' =>
    rw [er] at q
    obtain ⟨hc, q⟩ := post_ite q
    intro m' cls dd H' s' S' xr
    obtain ⟨rfl, hd⟩ := xr
    refine ⟨true, hx c hc, fun _ a na => ?_, fun z => nomatch z⟩
    have sA := stp_laid (u := ExV (CA c) a dd) S' na
    refine q m' _ _ ((s1.trans s').trans sA) (S'.laid na) ?_
    rcases hd with ⟨rfl, rfl⟩ | ⟨x, hf, rfl, nx, ex, en, ra⟩
    · exact .exc (fs := []) (S'.fresh na) upd_same (.inl ⟨rfl, rfl⟩) rfl .nil
    · have ne : x ≠ a := ne_of_none ex na
      exact .exc (fs := hf) (S'.fresh na) upd_same (.inr ⟨x, rfl, nx, by rw [upd_ne ne]; exact ex⟩) en (ra.move sA)
end
end CM
/-! the end of a law whose defs make lambdas -/
namespace CM
open PySem PySem.Spec PySem.Calls PyProof.Rows L2
section
variable {P : Program} {w : World} {K : PySem.W.Frag} {CA : CAs} {mg mb : Str → Option Value} {k : Nat} {fa a : Addr} {fd : FuncData} {sh : Shared} {vs : List Value} {ns : List Int} {F : FD} {cs : List (Addr × Addr)}
theorem law_endT (kin : K.In sh.heap) (gl : sh.heap.Ns mainGlobals mg) (bl : sh.heap.Ns builtinsNs mb)
    (blt : ∀ x : Str, x ≠ "__name__" → mb x = bootBuiltins x) (nl : sh.heap.NoLimit) (gens : sh.gens = #[]) (ha : sh.heap.get? a = some { cls := .type "list", data := .seq vs.toArray }) (hi : IntsAre vs ns) (hl : ns.length ≤ 63) (hr : Room k callerA) (hF : LawF F) (sm : SM sh.heap)
    (hT : ∀ p ∈ cs, sh.heap.get? p.2 = some { cls := .none, data := .fields #[] }) (nT : ∀ p ∈ cs, K.lookup p.2 = none) (hC : ∀ p ∈ cs, PySem.W.CodeHd sh.heap p.1 p.2)
    (hbm : ∃ (bm : Addr) (ob : Obj), mg "__builtins__" = some (.ref bm) ∧ bm ≠ builtinsNs ∧ sh.heap.get? bm = some ob ∧ ob.cls = .type "module" ∧ ob.dict = some builtinsNs ∧ ob.data = .plain) (T0 : ∀ p ∈ CA.T, ∃ c, (c, p.1) ∈ cs)
    (G : ∀ base : Heap, K.In base → base.Ns mainGlobals mg → SM base → (∀ p ∈ cs, LamX.TabB base mg p.1 p.2) → FnG P w K mg base true k fa fd ["_law_script"] (spD K CA 1 F)) (bind : ∀ (s : Shared) (u : Value), BindsTo s fd ⟨[u], []⟩ [("_law_script", u)]) :
    codeAny (model P w) callerA (.call (.ref fa) ⟨[.ref a], []⟩) (fun r s' => r = .ok (.ret (.bool true)) ∧ OldK sh.heap s'.heap ∧ s'.os = sh.os ∧ AllBare s'.gens) sh := by
  have rv := vals_ints hi
  have hv := hi.length
  have isT : ∀ b : Addr, b ∈ cs.map (·.2) → sh.heap.get? b = some { cls := .none, data := .fields #[] } := fun b hb => by
    obtain ⟨p, hp, e⟩ := List.mem_map.mp hb
    rw [← e]
    exact hT p hp
  have memT : ∀ p ∈ cs, p.2 ∈ cs.map (·.2) := fun p hp => List.mem_map.mpr ⟨p, hp, rfl⟩
  have aT : a ∉ cs.map (·.2) := fun z => by
    have q := isT a z
    rw [ha] at q
    have z' : Data.seq vs.toArray _ = Data.fields #[] := congrArg Obj.data (Option.some.inj q)
    cases z'
  suffices main : ∀ H : Hp, (∀ b, H b = none ∨ (b = a ∧ ∃ o xs, H b = some (.frz o (.lst xs))) ∨ (b ∈ cs.map (·.2) ∧ H b = some (.tbl #[]))) → (∀ p ∈ cs, H p.2 = some (.tbl #[])) → Rp K CA ⟨fun _ => 0, []⟩ CH.emp H (.ref a) (.scr ns) → HOk P w H sh.heap → (H a ≠ none → K.lookup a = none) →
      codeAny (model P w) callerA (.call (.ref fa) ⟨[.ref a], []⟩) (fun r s' => r = .ok (.ret (.bool true)) ∧ OldK sh.heap s'.heap ∧ s'.os = sh.os ∧ AllBare s'.gens) sh by
    have nlive : ∀ b, ¬ Live ⟨fun _ => 0, []⟩ CH.emp b := fun b z => by
      rcases z with ⟨k, o, e, _⟩ | z
      · cases e
      · cases z
    cases hk : K.lookup a with
    | some o =>
      have e := kin a o hk
      rw [ha] at e
      cases e
      refine main (fun b => if b ∈ cs.map (·.2) then some (.tbl #[]) else none) (fun b => ?_) (fun p hp => if_pos (memT p hp)) (.kscr (.inr ⟨_, vs.toArray, _, hk, rfl, rfl, rfl, ?_, by simpa using rv⟩)) (fun b u z => ?_) fun z => absurd (if_neg aT) z
      · by_cases h : b ∈ cs.map (·.2)
        · exact .inr (.inr ⟨h, if_pos h⟩)
        · exact .inl (if_neg h)
      · rw [List.size_toArray, hv]
        exact Nat.le_trans hl (by decide)
      · by_cases h : b ∈ cs.map (·.2)
        · have z' := (if_pos h).symm.trans z
          cases z'
          exact isT b h
        · have z' := (if_neg h).symm.trans z
          cases z'
    | none =>
      refine main (fun b => if b = a then some (.frz { cls := .type "list", data := .seq vs.toArray } (.lst (ns.map V.int))) else if b ∈ cs.map (·.2) then some (.tbl #[]) else none) (fun b => ?_) (fun p hp => (if_neg (show ¬ p.2 = a from fun z => aT (by rw [← z]; exact memT p hp))).trans (if_pos (memT p hp)))
        (.scr (nlive a) (if_pos rfl)) (fun b u z => ?_) fun _ => hk
      · by_cases h : b = a
        · exact .inr (.inl ⟨h, _, _, if_pos h⟩)
        · by_cases h2 : b ∈ cs.map (·.2)
          · exact .inr (.inr ⟨h2, (if_neg h).trans (if_pos h2)⟩)
          · exact .inl ((if_neg h).trans (if_neg h2))
      · by_cases h : b = a
        · cases (if_pos h).symm.trans z
          subst h
          exact ⟨ha, by rw [List.length_map]; exact Nat.le_trans hl (by decide), vs, _, rv, ha⟩
        · have z1 := (if_neg h).symm.trans z
          by_cases h2 : b ∈ cs.map (·.2)
          · have z' := (if_pos h2).symm.trans z1
            cases z'
            exact isT b h2
          · have z' := (if_neg h2).symm.trans z1
            cases z'
  intro H only hH rp hok hK
  have noD : ∀ {b : Addr} {o : Obj}, sh.heap.get? b = some o → (∀ vs n, o.data ≠ .seq vs n) → o.data ≠ .fields #[] → H b = none := fun {b o} e h1 h2 => by
    rcases only b with q | ⟨q, _⟩ | ⟨q, _⟩
    · exact q
    · rw [q, ha] at e
      cases e
      exact (h1 _ _ rfl).elim
    · rw [isT b q] at e
      cases e
      exact (h2 rfl).elim
  have offA : ∀ {b : Addr} {o : Obj}, sh.heap.get? b = some o → H b = none → (hidT sh.heap H).get? b = some o := fun {b o} e n => hidT_get e n
  have noDict : ∀ {b : Addr} {o : Obj} {es : Array DictEntry} {ep : Nat}, sh.heap.get? b = some o → o.data = .dict es ep → H b = none := fun {b o es ep} e d => by
    refine noD e (fun vs n z => ?_) fun z => ?_
    · rw [d] at z
      cases z
    · rw [d] at z
      cases z
  have ns' : ∀ {b : Addr} {m : Str → Option Value}, sh.heap.Ns b m → (hidT sh.heap H).Ns b m := fun {b m} ⟨o, es, ep, e, d, r⟩ => ⟨o, es, ep, offA e (noDict e d), d, r⟩
  have kb : K.In (hidT sh.heap H) := fun b o e => offA (kin b o e) (by
    rcases only b with q | ⟨q, _⟩ | ⟨q, _⟩
    · exact q
    · by_cases h : H b = none
      · exact h
      · rw [q] at h e
        rw [hK h] at e
        cases e
    · obtain ⟨p, hp, ep⟩ := List.mem_map.mp q
      rw [← ep, nT p hp] at e
      cases e)
  have TB : ∀ p ∈ cs, LamX.TabB (hidT sh.heap H) mg p.1 p.2 := fun p hp => by
    have hTp := hT p hp
    refine ⟨?_, ?_, fun z => ?_⟩
    · obtain ⟨o, us, file, tf, flags, tg, inF, text, tt, e1, r1, r2, r3, rest⟩ := hC p hp
      refine ⟨o, us, file, tf, flags, tg, inF, text, tt, offA e1 (noD e1 (fun vs n z => ?_) fun z => ?_), r1, r2, r3, rest⟩
      · rw [r2] at z
        cases z
      · rw [r2] at z
        cases z
        simp at r3
    · obtain ⟨bm, ob, b1, b2, b3, b4, b5, b6⟩ := hbm
      have nG : bm ≠ mainGlobals := fun q => by
        obtain ⟨o, es, ep, e, hd, _⟩ := gl
        rw [q, e] at b3
        cases b3
        rw [hd] at b6
        cases b6
      have nP : bm ≠ p.2 := fun q => by
        rw [q, hTp] at b3
        cases b3
        cases b6
      refine ⟨bm, ob, b1, b2, nG, nP, offA b3 (noD b3 (fun vs n z => ?_) fun z => ?_), b4, b5, b6⟩
      · rw [b6] at z
        cases z
      · rw [b6] at z
        cases z
    · obtain ⟨o, es, ep, e, hd, _⟩ := gl
      rw [z, hTp] at e
      cases e
      cases hd
  have env : Env0 P w K mg (hidT sh.heap H) callerA [] sh H := ⟨rfl, ⟨kb, ns' gl, ⟨mb, ns' bl, blt⟩, nl.imp fun mc h => ⟨ns' h.1, h.2⟩⟩, fun b o e => of_hidT e, Nat.le_of_eq (hidT_size _ _), trivial, fun b hb => absurd hb List.not_mem_nil, hok, .of_eq gens⟩
  have hR : HR K CA ⟨fun _ => 0, []⟩ CH.emp H := ⟨fun k o e => (nomatch e), fun k j o u e => (nomatch e), fun k o e => (nomatch e), fun a l => (nomatch l), fun p hp => by
    obtain ⟨c, hc⟩ := T0 p hp
    exact LamX.TabS.nil (hH _ hc)⟩
  have smB : SM (hidT sh.heap H) := by
    obtain ⟨o, es, ep, e, d⟩ := sm
    exact ⟨o, es, ep, offA e (noDict e d), d⟩
  obtain ⟨hf, eF⟩ := hF ns hl
  refine codeAny_mono ((G _ kb (ns' gl) smB TB).go callerA [] sh H ⟨[.ref a], []⟩ [.ref a] [.ref a] (fun v _ => v = .bl true) (fun _ _ _ => False) (fun _ => rfl) hr env (bind sh (.ref a)) (.cons rfl .nil) ⟨rfl, ⟨fun _ => 0, []⟩, CH.emp, [.scr ns], hR, .cons rp .nil, by
    rw [eF]
    intro m' v H' s S r
    cases r
    rfl⟩) fun r s' h => ?_
  rcases r with e | fl
  · obtain ⟨_, _, _, _, _, _, _, _, _, _, _, _, z⟩ := h
    exact z.elim
  · rcases fl with _ | _ | _ | u
    · exact False.elim h
    · exact False.elim h
    · exact False.elim h
    · obtain ⟨v, H2, os, bare, un, hok2, r2, q⟩ := h
      obtain rfl : v = .bl true := q
      obtain rfl : u = Value.bool true := r2
      have key : ∀ b o, b ∉ cs.map (·.2) → sh.heap.get? b = some o → s'.heap.get? b = some o := fun b o nb e => by
        rcases only b with z | ⟨_, ob, xs, z⟩ | ⟨z, _⟩
        · exact un.keep b o e z (fun y => absurd y List.not_mem_nil) (by simp)
        · obtain ⟨e1, _⟩ := hok b _ z
          obtain ⟨e2, _⟩ := hok2 b _ (un.frzs b ob _ z)
          rw [e] at e1
          cases e1
          exact e2
        · exact absurd z nb
      have grown : ∀ p ∈ cs, ∃ more : Array Value, s'.heap.get? p.2 = some { cls := .none, data := .fields more } := fun p hp => by
        obtain ⟨more, z⟩ := un.tbls p.2 #[] (hH p hp)
        exact ⟨_, hok2 p.2 _ z⟩
      refine ⟨rfl, ⟨fun b o e => ?_, fun b o e => ?_⟩, os, bare⟩
      · by_cases hb : b ∈ cs.map (·.2)
        · obtain ⟨p, hp, ep⟩ := List.mem_map.mp hb
          obtain ⟨more, hm⟩ := grown p hp
          rw [← ep] at e ⊢
          rw [hT p hp] at e
          cases e
          exact .inr (.inl ⟨((hC p hp).tab (hT p hp)).isCodeTable, rfl, #[], more, rfl, by rw [Array.empty_append]; exact hm⟩)
        · exact .inl (key b o hb e)
      · by_cases hb : b ∈ cs.map (·.2)
        · obtain ⟨p, hp, ep⟩ := List.mem_map.mp hb
          obtain ⟨more, hm⟩ := grown p hp
          rw [← ep]
          exact ⟨_, hm⟩
        · exact ⟨o, key b o hb e⟩
end
theorem walkGT {l : PySem.W.OpenLaw} {k : Nat} {q : Program} {loose : List Str} {XP : (Str → Option Value) → Heap → Prop} {YP : World → Heap → Prop} {d : DefRec} {K : Params → PySem.W.Frag} {F : FD} (hF : LawF F) (hi : importsNone q = true) (hn : l.most = some 63) (hdf : d.params.defaults = []) (hr : Room k callerA)
    (hY : ∀ (w : World) (h : Heap), YP w h → (K w.params).In h)
    (G0 : ∀ (w : World) (mg : Str → Option Value) (fa : Addr) (h : Heap), YP w h → (K w.params).In h → h.Ns mainGlobals mg → mg d.name = some (.ref fa) → ∃ (fd : FuncData) (CA : CAs) (cs : List (Addr × Addr)), (∀ p ∈ CA.T, ∃ c, (c, p.1) ∈ cs) ∧ (∀ p ∈ cs, h.get? p.2 = some { cls := .none, data := .fields #[] }) ∧ (∀ p ∈ cs, (K w.params).lookup p.2 = none) ∧ (∀ p ∈ cs, PySem.W.CodeHd h p.1 p.2) ∧
      (∀ (s : Shared) (u : Value), BindsTo s fd ⟨[u], []⟩ [("_law_script", u)]) ∧
      ∀ base : Heap, (K w.params).In base → base.Ns mainGlobals mg → SM base → (∀ p ∈ cs, LamX.TabB base mg p.1 p.2) → FnG l.prog w (K w.params) mg base true k fa fd ["_law_script"] (spD (K w.params) CA 1 F)) : PySem.W.WalkO q loose XP YP l.row.toRowW d [] (fun f vs => PySem.call f vs) := by
  refine Att.attach_callB hn hdf fun w s0 s1 mg mb fa o pm cd doc a vs ns G Y _ _ _ hm ha his hl _ gens => ?_
  obtain ⟨mm, hm2, _⟩ := (G.T.seer hi).mods
  have sm : SM s1.heap := by
    obtain ⟨o, es, ep, e, d, _⟩ := hm2
    exact ⟨o, es, ep, e, d⟩
  obtain ⟨fd, CA, cs, T0, hT, nT, hC, bd, G1⟩ := G0 w mg fa _ Y (hY w _ Y) G.T.g hm
  exact law_endT (hY w _ Y) G.T.g G.T.b G.T.builtins G.T.nolimit gens ha his hl hr hF sm hT nT hC G.T.bmain T0 G1 bd
end CM
/-! a def whose code object is known makes lambdas -/
namespace CM
open PySem PySem.Spec PySem.Calls PyProof.Rows L2
/-- a def of the text; its code object stands at c -/
structure FunC (K : PySem.W.Frag) (nm qual : Str) (st : Stmt) (f : Addr) (fd : FuncData) (c : Addr) : Prop where
  ex : ∃ (oc : Value) (od : Option Addr) (kV doc pm : Value) (an : Option Addr) (ct : Value) (osl : Array (Option Value)),
    fd = PySem.W.fnOf nm qual (defArgs st) (defBody st) (defScope st) .none kV doc pm an (.ref c) ct ∧ K.lookup f = some ⟨oc, od, .func fd, osl⟩ ∧ PySem.W.codeIn K (.ref c) qual = true
section
variable {P : Program} {w : World} {K : PySem.W.Frag} {mg : Str → Option Value} {base : Heap} {CA : CAs} {g : Bool}
theorem func_mk {nm qual : Str} {st : Stmt} {f c : Addr} {oc : Value} {od an : Option Addr} {osl : Array (Option Value)} {kV doc pm ct : Value} (l : K.lookup f = some ⟨oc, od, .func (PySem.W.fnOf nm qual (defArgs st) (defBody st) (defScope st) .none kV doc pm an (.ref c) ct), osl⟩) (h : PySem.W.codeIn K (.ref c) qual = true) :
    FunC K nm qual st f (PySem.W.fnOf nm qual (defArgs st) (defBody st) (defScope st) .none kV doc pm an (.ref c) ct) c := ⟨_, _, _, _, _, _, _, _, rfl, l, h⟩
theorem FnG.mkL {nm qual : Str} {st : Stmt} {f c : Addr} {fd : FuncData} {N ps : List Str} {k : Nat} {sp : Sp} (F : FunC K nm qual st f fd c) (S : FnScope N ps (defScope st)) (ln : ∀ vs H Q E, sp vs H Q E → vs.length = ps.length)
    (body : ∀ (A : Around) (outer : List Env) (s : Shared) (H : Hp) (vs : List V) (Q : VK) (E : XK), (g = true → A.guards = some []) → Room k (A.deeper (envOfC qual (defScope st) s.heap.objs.size f (.ref c))) → sp vs H Q E →
      ∃ t, PSs (cxD P w K mg base N qual st f (.ref c) A outer s H E) (defBody st) t ∧ t { nx := fun _ H2 => Q .non H2, rt := Q } (start N vs) H) : FnG P w K mg base g (k + 1) f fd ps sp := by
  obtain ⟨x1, x2, x4, x5, x6, x7, x8, x9, rfl, look, code⟩ := F.ex
  refine ⟨ln, fun A outer s H args us vs Q E hg room e0 bd rv hs => ?_⟩
  have len1 := ln _ _ _ _ hs
  have kin : K.In s.heap := e0.mod.kin.keeps fun b o e => (e0.bs b o e).1
  have nl : s.heap.NoLimit := e0.mod.nolimit.keeps fun b o e => (e0.bs b o e).1
  have kinds : ∀ y, y ∈ ps.zip us → (defScope st).names.lookup y.1 = some .local ∨ ((defScope st).names.lookup y.1 = some .cell ∧ ((cellsFrom (s.heap.objs.size + 1) (defScope st).names []).lookup y.1).isSome = true) := by
    rintro ⟨a, b⟩ hm
    exact (S.par a (List.of_mem_zip hm).1).imp id fun q => ⟨q, PySem.W.cellsFrom_some _ _ _ (.inl q)⟩
  refine codeAny_call_function room.depth (kin _ _ look) rfl S.co S.gen rfl (PySem.W.codeRec_of kin code) (bd _ _ _ _ (wpAny_newFunctionEnv_cells S.kind kinds fun env ee s1 hc => ?_))
  cases ee
  refine ⟨nl.keeps hc.toInCall.keep, codeAny_func ?_⟩
  obtain ⟨t, ht, hq⟩ := body A outer s H vs Q E hg (room.deeper _) hs
  have inv : Inv (cxD P w K mg base N qual st f (.ref c) A outer s H E) [] (start N vs) H s1 := inv_start S room.hd e0 len1 rv hc
  have back : ∀ {σ' : L2.St} {H2 : Hp} {v : V} {u : Value} {s2 : Shared}, Inv (cxD P w K mg base N qual st f (.ref c) A outer s H E) [] σ' H2 s2 → RelV v u → Q v H2 → CE outer P w H s Q u s2 := fun {_ H2 v _ _} J r q => ⟨v, H2, J.os, J.bare, J.base, J.hok, r, q⟩
  refine wpAny_mono (ht.run [] s1 (start N vs) H _ inv hq) (fun fl s2 h2 => ?_) fun _ _ z => z
  rcases fl with _ | _ | _ | u
  · obtain ⟨_, _, J, q⟩ := h2
    exact back (v := V.non) (u := Value.none) J rfl q
  · obtain ⟨_, _, _, q⟩ := h2; exact False.elim q
  · obtain ⟨_, _, _, q⟩ := h2; exact False.elim q
  · obtain ⟨_, _, _, J, r, q⟩ := h2
    exact back J r q
/-- a def that makes lambdas, by the reading of its body -/
theorem okDL {nm qual : Str} {st : Stmt} {f c : Addr} {fd : FuncData} {N ps : List Str} {k n l : Nat} {u : SD} (F : FunC K nm qual st f fd c) (S : FnScope N ps (defScope st)) (hm : ps.length = l) (hn : N.length = n)
    (hb : ∀ (A : Around) (outer : List Env) (s : Shared) (H : Hp) (E : XK), (g = true → A.guards = some []) → Room k (A.deeper (envOfC qual (defScope st) s.heap.objs.size f (.ref c))) →
      Takes (cxD P w K mg base N qual st f (.ref c) A outer s H E) (wxD E) → ∃ tS, WSs (cxD P w K mg base N qual st f (.ref c) A outer s H E) K CA (wxD E) (defBody st) tS u) : FnG P w K mg base g (k + 1) f fd ps (spD K CA l (bodyF n u)) := by
  subst hm hn
  refine FnG.mkL F S (fun vs H Q E h => h.1) fun A outer s H vs Q E hg hr h => ?_
  obtain ⟨hl, m, ch, ds, hR, r, q⟩ := h
  obtain ⟨t, ws⟩ := hb A outer s H E hg hr (takes_of rfl rfl rfl rfl)
  have hle : vs.length ≤ N.length := by
    have := congrArg List.length S.pre
    rw [List.length_take] at this
    omega
  exact ⟨t, ws.pe, ws.sim m ch H _ _ _ (so_start N hle hR r) (res_post q)⟩
/-- x is the def that calls what it gets and tells the exception of the class cs, or None -/
structure Cgt (K : PySem.W.Frag) (CA : CAs) (mg : Str → Option Value) (x : Str) (cs : Nat) : Prop where
  ex : ∃ (g : Addr) (a : Str) (pg : Arguments) (bg : List Stmt) (sg : Scope) (kV doc pm cdv ct oc : Value) (an od : Option Addr) (osl : Array (Option Value)) (Ng : List Str),
    mg x = some (.ref g) ∧ PySem.W.keepIn K (.ref g) = true ∧ K.lookup g = some ⟨oc, od, .func (PySem.W.fnOf x x pg bg sg .none kV doc pm an cdv ct), osl⟩ ∧ PySem.W.codeIn K cdv x = true ∧
    L2.Binds K (PySem.W.fnOf x x pg bg sg .none kV doc pm an cdv ct) [a] [] ∧ FnScope Ng [a] sg ∧ Ng[0]? = some a ∧ Vis sg a ∧ (a == ("__debug__" : Str)) = false ∧ (a == ("__classdict__" : Str)) = false ∧
    ∀ (X : Cx) (q : Str), X.K = K → X.mg = mg → LamX.GivesTo X Ng x sg g cdv bg a q (TCaught K (CA cs))
theorem cgt_mk {x a e c n : Str} {sg : Scope} {g : Addr} {cs : Nat} {pg : Arguments} {kV doc' pm cdv ct oc : Value} {an od : Option Addr} {osl : Array (Option Value)} {j1 : Nat} {p1 p2 p3 p4 p7 p8 q2 q3 q4 q5 q6 q7 q8 q9 : Pos}
    (lk : K.lookup g = some ⟨oc, od, .func (PySem.W.fnOf x x pg [.Assign [.Name c q2] (.Constant .none j1 q3) q4, .Try [.Expr (.Call (.Name a p1) [] [] p2) p3] [.ExceptHandler (some (.Name e p4)) (some n) [.Assign [.Name c q5] (.Name n q6) q7] p7] [] [] p8, .Return (some (.Name c q8)) q9] sg .none kV doc' pm an cdv ct), osl⟩)
    (hc0 : PySem.W.codeIn K cdv x = true) (hk : PySem.W.keepIn K (.ref g) = true) (hm : mg x = some (.ref g)) (hme : mg e = some (.ref (CA cs))) (hb : L2.Binds K (PySem.W.fnOf x x pg [.Assign [.Name c q2] (.Constant .none j1 q3) q4, .Try [.Expr (.Call (.Name a p1) [] [] p2) p3] [.ExceptHandler (some (.Name e p4)) (some n) [.Assign [.Name c q5] (.Name n q6) q7] p7] [] [] p8, .Return (some (.Name c q8)) q9] sg .none kV doc' pm an cdv ct) [a] [])
    (S : FnScope [a, c, n] [a] sg) (hge : sg.names.lookup e = some .globalImplicit) (hde : (e == ("__debug__" : Str)) = false) (ha : sg.names.lookup a = some .local) (hc : sg.names.lookup c = some .local) (hn : sg.names.lookup n = some .local)
    (da : (a == ("__debug__" : Str)) = false) (da2 : (a == ("__classdict__" : Str)) = false) (hd1 : (c == ("__debug__" : Str)) = false) (hd2 : (n == ("__debug__" : Str)) = false) (hd3 : (c == ("__classdict__" : Str)) = false) (hd4 : (n == ("__classdict__" : Str)) = false) : Cgt K CA mg x cs :=
  ⟨g, a, pg, _, sg, kV, doc', pm, cdv, ct, oc, an, od, osl, [a, c, n], hm, hk, lk, hc0, hb, S, rfl, .inl ha, da, da2, fun X q hK hmg => by
    subst hK hmg
    exact caught_gives hge hme hde S hc hn hd1 hd2 hd3 hd4⟩
end
section
variable {X : Cx} {K : PySem.W.Frag} {CA : CAs} {W : WX} {xs : List Nat} {cs : Nat} {t : XK → TE} {tb : TD} {x : Str} {c P : Addr} {k : Nat} {params : Arguments} {body : Expr} {scope : Scope} {p lpos pos : Pos}
/-- x(lambda: body) -/
theorem we_caught (k : Nat) (G : Cgt X.K CA X.mg x cs) (hx : ∀ c ∈ xs, PySem.W.exmOne X.K (.ref (CA c)) (.ref (CA cs)) = some true) (TB : LamX.TabB X.base X.mg c P) (hmT : (P, X.env.qual ++ "<lambda>") ∈ CA.T) (hu : ∀ p ∈ CA.T, p.1 = P → p.2 = X.env.qual ++ "<lambda>") (hr : Room (k + 2) X.A)
    (L : LamX.lamSB X.env.scope scope = true)
    (hbody : ∀ (A : Around) (outer : List Env) (s : Shared) (H : Hp) (E : XK) (f c' : Addr), Room k (A.deeper (LamX.lamEnv X scope s.heap.objs.size f c')) → Takes (LamX.lamCx X A outer s H E scope f c') (wxD E) → WE (LamX.lamCx X A outer s H E scope f c') K CA (wxD E) body (t E) tb)
    (hcode : X.env.code = .ref c := by rfl) (hg : Gl X x := by rfl) (hK : X.K = K := by rfl) (hdef : defaultsOf params X.env = ([], []) := by rfl)
    (hbind : ∀ (q : Str) (cl : List (Str × Addr)) (pm cv ctv : Value), bindArgs (PySem.W.kla_fn "<lambda>" q params body scope cl pm cv ctv) ⟨[], []⟩ = pure [] := by intros; rfl) (hdb : (x == ("__debug__" : Str)) = false := by decide) :
    WE X K CA W (.Call (.Name x p) [.Lambda params body scope lpos] [] pos) (LamX.tLam CA.T (TCaught K (CA cs)) t) (dCaught xs tb) := by
  subst hK
  obtain ⟨g, a, pg, bg, sg, kV, doc, pm, cdv, ct, oc, an, od, osl, Ng, h1, h2, h3, h4, h5, h6, h7, h8, h9, h10, h11⟩ := G.ex
  refine ⟨LamX.pe_lamcall (k := k) hg h1 h2 h3 h4 h5 h6 h7 h8 (h11 X _ rfl rfl) TB hcode hmT hu hr (LamX.lamS_by L) hdef hbind (fun A outer s H E f c' hr2 => (hbody A outer s H E f c' hr2 (takes_of rfl rfl rfl rfl)).pe) hdb h9 h10, sim_caught hx fun E => ?_⟩
  exact (hbody X.A X.outer X.s_0 X.H_0 E 0 0 ((hr.mono (Nat.le_succ _)).deeper _) (takes_of rfl rfl rfl rfl)).sim
end
end CM
/-! list(d.values()) -/
namespace CM
open PySem PySem.Spec PyProof.Rows L2
def tListVals (td : TE) : TE := fun σ H Q => td σ H fun x H1 => ∃ a kvs, x = V.ref a ∧ Rd H1 a (.dK kvs) ∧ ∀ p, H1 p = none → Q (.ref p) (upd H1 p (.lst (kvs.map (·.2))))
section
variable {X : Cx} {o : Expr} {p pos apos mpos : Pos} {td : TE}
theorem pe_listVals (hc : X.calm = true) (hg : Gl X "list") (hm : X.mg "list" = none) (hd : PE X o td) (hbase : attributeBase o "values" X.env (eval o X.env) = eval o X.env := by rfl) (hline : (apos.endLine == mpos.line) = true := by rfl)
    (hse : starEach [Expr.Call (.Attribute o "values" apos) [] [] mpos] X.env = [(false, eval (Expr.Call (.Attribute o "values" apos) [] [] mpos) X.env)] := by rfl) :
    PE X (.Call (.Name "list" p) [.Call (.Attribute o "values" apos) [] [] mpos] [] pos) (tListVals td) := by
  refine ⟨fun pins s σ H Q I h => ?_⟩
  refine wpAny_Call_Name_kw (ld_blt I hg hm boot_list ?_)
  have na : starEach [Expr.Call (.Attribute o "values" apos) [] [] mpos] X.env = (false, eval (Expr.Call (.Attribute o "values" apos) [] [] mpos) X.env) :: starEach [] X.env := hse
  refine PyProof.Rows.callWith_type1 (args_cons ?_ na) na
  refine (wpAny_Call_method0_late hbase hline (thn (hd.run pins s σ H _ I h) fun v s1 ⟨x, H1, I1, r1, a, kvs, ex, ha, q⟩ => ?_))
  subst ex
  obtain rfl : v = Value.ref a := r1
  obtain ⟨hz, hsys, vs, rel, dof⟩ := dk_rd I1.hok ha
  obtain ⟨ep, dat⟩ := dof.dictAt
  have dat' := dat
  obtain ⟨ob, es, ho, ex, hdat, hko, hpr, hnd⟩ := dat'
  refine ⟨"dict", "dict.values", F.plainAttrs_dict, F.slot_dict_values, F.type_dict_values, ⟨ob, ho, ex.1⟩, fun b e => ?_, Calls.callWith_builtin rfl (PySem.evalArgs_none ?_)⟩
  · cases e
    exact ⟨ob, ho, ex.2.1⟩
  refine call_meetsIn F.slot_dict_values ⟨ob, ho, ex.1⟩ F.entry_dict_values (F.args_dict_values_1 _) (meets_dict_values (mixKind X.prog X.w) a hsys) ⟨⟨vs, dof⟩, ?_⟩
  have k1 : ∀ b u, s1.heap.get? b = some u → (s1.heap.push { cls := .type "dict_values", data := .fields #[.ref a] }).get? b = some u := fun b u e => Heap.get?_push_of_some _ e
  have dat1 : (s1.heap.push { cls := .type "dict_values", data := .fields #[.ref a] }).DictAt (mixKind X.prog X.w) a vs ep := dat.keep k1
  have I2 : Inv X pins σ H1 { s1 with heap := s1.heap.push { cls := .type "dict_values", data := .fields #[.ref a] } } := I1.kept (t' := s1.toks) k1
  have hl : kvs.length = vs.length := Paired.length rel
  refine args_nil ?_
  refine PySem.W.kdl_call (PySem.W.kdl_values (knd := mixKind X.prog X.w) (r := s1.heap.objs.size) (d := a) (kvs := vs) (ep := ep)) (I.ok.hd hc) ⟨⟨_, Heap.get?_push_size _ rfl, rfl, rfl⟩, dat1⟩ (by rw [← hl]; exact hz) fun h' tk acc' c' hkeep hS hacc => ?_
  refine ⟨.ref _, upd H1 _ (.lst (kvs.map (·.2))), I2.laid hkeep (Nat.le_refl _) (show ObjOk X.prog X.w _ _ _ (.lst (kvs.map (·.2))) from ⟨?_, acc'.toList, c', ?_, ?_⟩), rfl, q _ (I2.hok.fresh (Nat.le_refl _))⟩
  · rw [List.length_map]; exact hz
  · have el : acc'.toList.length = acc'.size := by simp
    refine vals_of_at (by rw [List.length_map, el, hacc.1, hl]) fun j x w h1 h2 => ?_
    obtain ⟨k, hky⟩ := hacc.2 j w (by rw [← Array.getElem?_toList]; exact h2)
    obtain ⟨y, hy, hr⟩ := KV.at' rel hky
    rw [List.getElem?_map, hy] at h1
    cases h1
    exact hr
  · rw [Array.toArray_toList]; exact hS
end
def dListVals (nm : Bool) (t : TD) : TD := fun ρ h => (t ρ h).bind fun d h => match dctOf h d with
  | some kvs => mkL nm (kvs.map (·.2)) h
  | none => .no
section
variable {X : Cx} {K : PySem.W.Frag} {CA : CAs} {W : WX} {e : Expr} {ha : TE} {ta : TD} {p pos apos mpos : Pos}
theorem we_listVals (nm : Bool) (x : WE X K CA W e ha ta) (hm : X.mg "list" = none) (hc : X.calm = true := by rfl) (hg : Gl X "list" := by rfl) (hbase : attributeBase e "values" X.env (eval e X.env) = eval e X.env := by rfl) (hline : (apos.endLine == mpos.line) = true := by rfl)
    (hse : starEach [Expr.Call (.Attribute e "values" apos) [] [] mpos] X.env = [(false, eval (Expr.Call (.Attribute e "values" apos) [] [] mpos) X.env)] := by rfl) :
    WE X K CA W (.Call (.Name "list" p) [.Call (.Attribute e "values" apos) [] [] mpos] [] pos) (tListVals ha) (dListVals nm ta) :=
  ⟨pe_listVals hc hg hm x.pe hbase hline hse, fun m h H σ ρ Q' S t => x.sim m h H σ ρ _ S (t.bind fun d h1 m1 v H1 s1 S1 r1 t1 => by
    split at t1
    · rename_i kvs ek
      obtain ⟨a, o, hk, rfl, e1, c, en, rr⟩ := rp_dct S1 r1 ek
      have rd : Rd H1 a (.dK hk) := by
        rcases core_dK c with rfl | ⟨ob, rfl⟩
        · exact .inl e1
        · exact .inr ⟨ob, e1⟩
      exact ⟨a, hk, rfl, rd, fun p n => mkL_post S1 n rr t1⟩
    · exact t1.elim)⟩
end

/-! ### repr of any plain value -/
def fRepA : FD := fun ds h => match ds with
  | [.non] => .ok (.str "None") h
  | [.bl b] => .ok (.str (if b then "True" else "False")) h
  | [.str x] => if (reprText x).length ≤ sizeLine then .ok (.str (reprText x)) h else .no
  | _ => fRep ds h
def rRepA (K : PySem.W.Frag) : List V → Hp → VK → Prop := fun xs H Q => (xs = [.non] ∧ Q (.str "None") H) ∨ (∃ b, xs = [.bl b] ∧ Q (.str (if b then "True" else "False")) H) ∨
  (∃ x, xs = [.str x] ∧ (reprText x).length ≤ sizeLine ∧ Q (.str (reprText x)) H) ∨ rRep K xs H Q
section
variable {X : Cx} {K : PySem.W.Frag} {CA : CAs}
theorem call_repA (sm : SM X.base) (hG : X.A.guards = some []) (hu : X.A.units + 64 < cLine) (hK : X.K = K := by rfl) : CallR X (.builtin "repr") (rRepA K) := by
  rintro pins s σ H xs us Q I r (⟨rfl, q⟩ | ⟨b, rfl, q⟩ | ⟨x, rfl, l, q⟩ | q)
  · obtain ⟨u, rfl, rfl⟩ := vals1 r
    exact PySem.P.repr_of_none ⟨.str _, H, I.tok _, ⟨_, rfl⟩, q⟩
  · obtain ⟨u, rfl, rfl⟩ := vals1 r
    exact PySem.P.repr_of_bool ⟨.str _, H, I.tok _, ⟨_, rfl⟩, q⟩
  · obtain ⟨u, rfl, t, rfl⟩ := vals1 r
    exact PySem.call_repr_gives (typeIs_str s x t) F.slot_str_repr F.entry_str_repr (F.args_str_repr_1 _) (gives_str_repr x t) (show EP X pins σ Q _ _ from ⟨.str _, H, I.tok _, ⟨_, rfl⟩, q⟩) (hx := l)
  · exact call_rep sm hG hu hK pins s σ H xs us Q I r q
theorem sim_repA : SimC K CA (rRepA K) fRepA := by
  intro W σ m h H xs ds Q' S r t
  unfold fRepA at t
  split at t
  · cases r with
    | cons r1 r2 => cases r1; cases r2; exact .inl ⟨rfl, t.here S (.str _)⟩
  · cases r with
    | cons r1 r2 => cases r1; cases r2; exact .inr (.inl ⟨_, rfl, t.here S (.str _)⟩)
  · cases r with
    | cons r1 r2 =>
      cases r1; cases r2
      obtain ⟨c, t⟩ := post_ite t
      exact .inr (.inr (.inl ⟨_, rfl, c, t.here S (.str _)⟩))
  · exact .inr (.inr (.inr (sim_rep W σ m h H xs ds Q' S r t)))
/-- an expression that is never come to -/
theorem we_never {e : Expr} {W : WX} : WE X K CA W e (fun _ _ _ => False) (fun _ _ => .no) := ⟨⟨fun _ _ _ _ _ _ h => h.elim⟩, fun m h H σ ρ Q' S q => q.elim⟩
def dNo : TD := fun _ _ => .no
end
end CM
/-! sorted(list of data that are alike, tuples in tuples) -/
namespace CM
open PySem PySem.Spec PyProof.Rows L2
abbrev leQ {α : Type} : α × PyData → α × PyData → Bool := fun a b => PySem.W.dataLe false (fun x : α × PyData => x.2) a b
def sortQ {α : Type} (xs : List α) (ps : List PyData) : List α := ((xs.zip ps).mergeSort leQ).map (·.1)
def okSQ (ps : List PyData) : Bool := ps.all (fun d => ps.all fun d' => PySem.W.alike d d') && (ps.all (fun d => match d with
  | .tuple (_ :: _) => true
  | _ => false) && (decide (ps.length ≤ 100000) && ps.all (fun d => decide (d.depth ≤ 20))))
theorem okSQ_all {ps : List PyData} (h : okSQ ps = true) : PySem.W.AllAlike ps ∧ PySem.W.Sortable ps ∧ ps.length ≤ 100000 ∧ ∀ d ∈ ps, d.depth ≤ 20 := by
  simp only [okSQ, Bool.and_eq_true, List.all_eq_true, decide_eq_true_eq] at h
  obtain ⟨h1, h2, h3, h4⟩ := h
  refine ⟨h1, .inl fun d hd => ?_, h3, h4⟩
  have q := h2 d hd
  split at q
  · exact ⟨_, _, rfl⟩
  · cases q
def rSrtQ (K : PySem.W.Frag) : List V → Hp → VK → Prop := fun xs H Q => ∃ (p : Addr) (vs : List V) (ps : List PyData), xs = [V.ref p] ∧ SqL K H p vs ∧ DpDs K H vs ps ∧ okSQ ps = true ∧ ∀ l, H l = none → Q (.ref l) (upd H l (.lst (sortQ vs ps)))
section
variable {X : Cx} {K : PySem.W.Frag} {CA : CAs} {pins : List (Addr × Obj)} {σ : L2.St} {H : Hp} {s : Shared}
theorem dps_each (I : Inv X pins σ H s) (sm : SM X.base) : ∀ {vs : List V} {ps : List PyData} {us : List Value}, DpDs X.K H vs ps → Vals vs us → PySem.W.EachIs (fun (u : Value) (b : V × PyData) => RelV b.1 u ∧ ∃ as, Reads s.heap u b.2 as) us (vs.zip ps)
  | [], _, _, h, r => by cases h; cases r; exact .nil
  | v :: vs, _, _, h, r => by
    cases h with
    | cons h1 h2 =>
      cases r with
      | cons r1 r2 =>
        obtain ⟨as, q, _⟩ := DpD.reads I sm _ _ _ h1 r1
        exact .cons ⟨r1, as, q⟩ (dps_each I sm h2 r2)
theorem each_vals : ∀ {us : List Value} {bs : List (V × PyData)}, PySem.W.EachIs (fun (u : Value) (b : V × PyData) => RelV b.1 u) us bs → Vals (bs.map (·.1)) us
  | _, _, .nil => .nil
  | _, _, .cons h t => .cons h (each_vals t)
theorem call_srtQ (sm : SM X.base) (hu : X.A.units + 64 < cLine) (hK : X.K = K := by rfl) : CallR X (.builtin "sorted") (rSrtQ K) := by
  subst hK
  rintro pins s σ H xs us Q I r ⟨p, vs, ps, rfl, sq, dp, ok, q⟩
  obtain ⟨u, rfl, rx⟩ := vals1 r
  cases (show u = Value.ref p from rx)
  obtain ⟨al, so, ln, de⟩ := okSQ_all ok
  obtain ⟨its, rv, pl, hz⟩ := I.list sq
  have ll := dp.length
  have er := dps_each I sm dp rv
  have m2 : (vs.zip ps).map (fun x : V × PyData => x.2) = ps := by rw [List.map_snd_zip]; omega
  have lz : (vs.zip ps).length = ps.length := by rw [List.length_zip]; omega
  refine PySem.W.sorted_data (R := fun (u : Value) (b : V × PyData) => RelV b.1 u) (enc := fun x : V × PyData => x.2) pl.isList (er.mono fun _ _ z => z.1) (er.mono fun _ _ z => z.2) (by rw [m2]; exact al) (by rw [m2]; exact so) (by rw [lz]; exact Nat.le_trans ln (by decide)) (fun b hb => ?_) fun out hl eo => ?_
  · have := de b.2 (List.of_mem_zip hb).2
    omega
  · obtain ⟨c, hc⟩ := sortedAll_at s.heap its out.toArray
    refine ⟨.ref _, upd H _ (.lst (sortQ vs ps)), I.laid (t' := s.toks) (fun b o e => sortedAll_old e) (Nat.le_succ _) (show ObjOk X.prog X.w _ _ _ (.lst (sortQ vs ps)) from ⟨?_, out, c, each_vals eo, hc⟩), rfl, q _ (I.hok.fresh (Nat.le_succ _))⟩
    unfold sortQ
    rw [List.length_map, List.length_mergeSort, lz]
    exact Nat.le_trans ln (by decide)
end
def fSrtQ (nm : Bool) : FD := fun ds h => match ds with
  | [d] => match lstOf h d with
    | some xs => match xs.mapM (toQ h 14) with
      | some ps => if okSQ ps = true then mkL nm (sortQ xs ps) h else .no
      | none => .no
    | none => .no
  | _ => .no
section
variable {K : PySem.W.Frag} {CA : CAs}
theorem rps_zip {m : Mp} {h : CH} {H : Hp} : ∀ {vs : List V} {ds : List D} (ps : List PyData), RpAll K CA m h H vs ds → vs.length = ps.length → PySem.W.EachIs (fun (a : V × PyData) (b : D × PyData) => Rp K CA m h H a.1 b.1 ∧ a.2 = b.2) (vs.zip ps) (ds.zip ps)
  | [], _, ps, r, l => by cases r; exact .nil
  | v :: vs, _, [], r, l => by cases l
  | v :: vs, _, p :: ps, r, l => by
    cases r with
    | cons a b => exact .cons ⟨a, rfl⟩ (rps_zip ps b (by simpa using l))
theorem each_rps {m : Mp} {h : CH} {H : Hp} : ∀ {as : List (V × PyData)} {bs : List (D × PyData)}, PySem.W.EachIs (fun (a : V × PyData) (b : D × PyData) => Rp K CA m h H a.1 b.1 ∧ a.2 = b.2) as bs → RpAll K CA m h H (as.map (·.1)) (bs.map (·.1))
  | _, _, .nil => .nil
  | _, _, .cons h t => .cons h.1 (each_rps t)
theorem sim_srtQ {nm : Bool} : SimC K CA (rSrtQ K) (fSrtQ nm) := by
  intro W σ m h H xs ds Q' S r t
  unfold fSrtQ at t
  split at t
  · split at t
    · rename_i ys e
      split at t
      · rename_i ps ep
        obtain ⟨ok, t⟩ := post_ite t
        cases r with
        | cons r1 r2 =>
          cases r2
          obtain ⟨a, zs, rfl, e1, rr⟩ := rp_lst S r1 e
          have dp := rp_dpq_of (rp_dpq S 14) ys zs ps rr ep
          refine ⟨a, zs, ps, rfl, .of e1, dp, ok, fun l n => mkL_post S n ?_ t⟩
          refine each_rps (PySem.W.sort_each (rps_zip ps rr dp.length) fun p hp q hq => ?_)
          have z1 := (PySem.W.EachIs.zip (rps_zip ps rr dp.length) p hp).2
          have z2 := (PySem.W.EachIs.zip (rps_zip ps rr dp.length) q hq).2
          show PySem.W.dataLe false (fun x : V × PyData => x.2) p.1 q.1 = PySem.W.dataLe false (fun x : D × PyData => x.2) p.2 q.2
          unfold PySem.W.dataLe PySem.W.sortLe
          simp only [z1, z2]
      · exact t.elim
    · exact t.elim
  · exact t.elim
/-- the sorted list has the same items -/
theorem sortQ_perm {α : Type} {xs : List α} {ps : List PyData} (h : xs.length = ps.length) : (sortQ xs ps).Perm xs := by
  have q := (List.mergeSort_perm (xs.zip ps) leQ).map (·.1)
  rw [List.map_fst_zip (by omega)] at q
  exact q
end
end CM
/-! starred arguments; tuple(range(n)) -/
namespace CM
open PySem PySem.Spec PyProof.Rows L2
def dStar (ta : TD) (ts : TDs) : TDs := fun ρ h => (ta ρ h).bind fun d h => match seqOf h d with
  | some xs => (ts ρ h).bind fun ys h => .ok (xs ++ ys) h
  | none => .no
section
variable {X : Cx} {K : PySem.W.Frag} {CA : CAs} {W : WX} {e : Expr} {es : List Expr} {pos p sp_ : Pos} {ha : TE} {ta : TD} {hs : TA} {ts : TDs}
theorem rps_app {m : Mp} {h : CH} {H : Hp} : ∀ {xs ys : List V} {ds es : List D}, RpAll K CA m h H xs ds → RpAll K CA m h H ys es → RpAll K CA m h H (xs ++ ys) (ds ++ es)
  | [], _, _, _, a, b => by cases a; exact b
  | x :: xs, _, _, _, a, b => by
    cases a with
    | cons a1 a2 => exact .cons a1 (rps_app a2 b)
/-- *e among the arguments -/
theorem wa_star (x : WE X K CA W e ha ta) (y : WA X K CA W es hs ts) (hK : X.K = K := by rfl) (hst : starEach (.Starred e sp_ :: es) X.env = (true, eval e X.env) :: starEach es X.env := by rfl) : WA X K CA W (.Starred e sp_ :: es) (StX.tStar K ha hs) (dStar ta ts) := by
  subst hK
  refine ⟨StX.pa_star x.pe y.pe hst, fun m h H σ ρ Q' S t => x.sim m h H σ ρ _ S (t.bind fun d h1 m1 v H1 s1 S1 r1 t1 => ?_)⟩
  split at t1
  · rename_i xs e1
    obtain ⟨a, zs, rfl, q, rr⟩ := rp_seq S1 r1 e1
    refine ⟨a, zs, rfl, q.symm, y.sim m1 h1 H1 σ ρ _ (S.move s1 S1) (t1.bind fun ys h2 m2 ws H2 s2 S2 r2 t2 => ?_)⟩
    exact t2.here S2 (rps_app (rr.move s2) r2)
  · exact t1.elim
end
section
variable {X : Cx} {K : PySem.W.Frag} {CA : CAs} {W : WX} {e : Expr} {es : List Expr} {pos p : Pos} {ha : TE} {ta : TD} {hs : TA} {ts : TDs} {x : Str} {g : Bool} {k : Nat} {ps : List Str} {F : FD} {f : Addr} {fd : FuncData}
/-- f(e, .., *y) -/
theorem we_callS (D : Df X.prog X.w X.K X.mg X.base CA x g k ps F f fd) (hG : g = true → X.A.guards = some []) (hr : Room k X.A) (tk' : Takes X W) (h : WA X K CA W (e :: es) hs ts) (B : KwB K CA fd ps ps.length [] (srcP 0 ps.length)) (hg : Gl X x := by rfl) (hK : X.K = K := by rfl)
    (hdb : (x == ("__debug__" : Str)) = false := by decide) (he : starEach (e :: es) X.env = (false, eval e X.env) :: starEach es X.env := by rfl) (hst : (backTo pos (starEach es X.env)).any (·.1) = true := by rfl) :
    WE X K CA W (.Call (.Name x p) (e :: es) [] pos) (tCallN K CA W ps.length 0 (fun ds _ => F ds) hs L2.tNil) (dCall ps.length F ts) := by
  subst hK
  refine ⟨⟨fun pins s σ H Q I hq => wpAny_Call_Name_kw (ld_glob I hg D.hm ?_ hdb)⟩, sim_call h.sim⟩
  refine PySem.W.callWith_S2 (h₀ := X.base) I.ok.mod.kin D.hk (thn (h.pe.run pos pins s σ H _ I hq) fun us s1 ⟨vs, H1, I1, r, l1, l2, m, h, ds, es, hR, rd, re, q⟩ => ⟨I1.kIn, ?_⟩) he hst
  refine run_callN (ws := []) D.G hG hr B tk' I1 r .nil l1 l2 hR rd re (srcP_length _ _) ?_
  have e : pickD ds es (srcP 0 ps.length) = ds := by rw [← l1, rd.length]; exact pick_srcP es ds
  rw [e]
  exact q
end
def dTupR (ta : TD) : TD := fun ρ h => (ta ρ h).bind fun d h => match d with
  | .int n => if 0 ≤ n ∧ n ≤ 100000 then .ok (.tup (rgD 0 n.toNat)) h else .no
  | _ => .no
section
variable {X : Cx} {K : PySem.W.Frag} {CA : CAs} {W : WX} {e : Expr} {pos p p2 pos2 : Pos} {ha : TE} {ta : TD}
theorem rp_ints_l {m : Mp} {h : CH} {H : Hp} : ∀ (l : List Nat), RpAll K CA m h H (l.map fun i : Nat => V.int (0 + (i : Int))) (l.map fun i : Nat => D.int (0 + (i : Int)))
  | [] => .nil
  | i :: l => .cons (.int _) (rp_ints_l l)
/-- tuple(range(e)) -/
theorem we_tupR (x : WE X K CA W e ha ta) (hm : X.mg "tuple" = none) (hm2 : X.mg "range" = none) (hc : X.calm = true := by rfl) (hg : Gl X "tuple" := by rfl) (hg2 : Gl X "range" := by rfl) (n1 : starEach [e] X.env = (false, eval e X.env) :: starEach [] X.env := by rfl)
    (n2 : starEach [Expr.Call (.Name "range" p2) [e] [] pos2] X.env = (false, eval (Expr.Call (.Name "range" p2) [e] [] pos2) X.env) :: starEach [] X.env := by rfl) :
    WE X K CA W (.Call (.Name "tuple" p) [.Call (.Name "range" p2) [e] [] pos2] [] pos) (tTupRg (tRg1 ha)) (dTupR ta) :=
  ⟨pe_tupRg hc hg hm (prg_1 hg2 hm2 x.pe n1) n2, fun m h H σ ρ Q' S t => x.sim m h H σ ρ _ S (t.bind fun d h1 m1 v H1 s1 S1 r1 t1 => by
    split at t1
    · rename_i n
      obtain ⟨⟨c1, c2⟩, t2⟩ := post_ite t1
      cases r1
      refine ⟨n, rfl, ⟨by omega, by omega, by omega, by omega, by omega⟩, fun q nq => ?_⟩
      have e1 : rgV 0 n = (List.range n.toNat).map fun i : Nat => V.int (0 + (i : Int)) := by
        unfold rgV
        rw [Int.sub_zero]
      rw [e1]
      exact t2.laid S1 nq (.tup (S1.fresh nq) upd_same (rps_laid S1 nq (rp_ints_l _)))
    · exact t1.elim)⟩
end
end CM
/-! dicts whose keys are tuples of ints and texts: d[a, b], d[a, b] = v -/
namespace CM
open PySem PySem.Spec PyProof.Rows L2
def keysL (ds : List D) : Option (List Key) := ds.mapM keyD
def dGetT (kvs : List (List Key × D)) (k : List Key) : Option D := (kvs.find? fun kv => decide (kv.1 = k)).map (·.2)
def dPutT (ps : List (List Key × D)) (k : List Key) (d : D) : List (List Key × D) :=
  if (ps.any fun p => decide (p.1 = k)) = true then ps.map (fun p => if p.1 = k then (p.1, d) else p) else ps ++ [(k, d)]
section
variable {K : PySem.W.Frag} {CA : CAs} {m : Mp} {h : CH} {H : Hp} {v : V} {d : D}
theorem rp_keysL : ∀ {vs : List V} {ds : List D} {ks : List Key}, RpAll K CA m h H vs ds → keysL ds = some ks → vs = ks.map kV
  | [], _, _, r, e => by
    cases r
    unfold keysL at e
    simp at e
    subst e
    rfl
  | v :: vs, _, _, r, e => by
    cases r with
    | cons r1 r2 =>
      unfold keysL at e
      simp only [List.mapM_cons, Option.bind_eq_bind, Option.bind_eq_some_iff, Option.pure_def, Option.some.injEq] at e
      obtain ⟨k, e1, ks, e2, rfl⟩ := e
      rw [List.map_cons, rp_key r1 e1, rp_keysL r2 (show keysL _ = some ks from e2)]
theorem rp_dgetT {k : List Key} : ∀ {kvs : List (List Key × V)} {ds : List (List Key × D)} {d : D}, kvs.map (·.1) = ds.map (·.1) → RpAll K CA m h H (kvs.map (·.2)) (ds.map (·.2)) → dGetT ds k = some d → ∃ v, valV kvs k = some v ∧ Rp K CA m h H v d
  | [], [], _, _, _, g => by cases g
  | [], _ :: _, _, e, _, _ => by simp at e
  | _ :: _, [], _, e, _, _ => by simp at e
  | p :: kvs, q :: ds, d, e, r, g => by
    obtain ⟨pk, pv⟩ := p
    obtain ⟨qk, qv⟩ := q
    simp only [List.map_cons, List.cons.injEq] at e
    obtain ⟨e1, e2⟩ := e
    subst e1
    cases r with
    | cons r1 r2 =>
      by_cases c : pk = k
      · subst c
        have : d = qv := by simpa [dGetT] using g.symm
        exact ⟨pv, by simp [valV], by rw [this]; exact r1⟩
      · obtain ⟨w, h1, h2⟩ := rp_dgetT (k := k) e2 r2 (show dGetT ds k = some d by simpa only [dGetT, List.find?_cons, decide_eq_false c] using g)
        exact ⟨w, by rw [valV_neg c]; exact h1, h2⟩
theorem rp_dputT {k : List Key} {kvs : List (List Key × V)} {ds : List (List Key × D)} (e : kvs.map (·.1) = ds.map (·.1)) (r : RpAll K CA m h H (kvs.map (·.2)) (ds.map (·.2))) (r' : Rp K CA m h H v d) :
    (putK kvs k v).map (·.1) = (dPutT ds k d).map (·.1) ∧ RpAll K CA m h H ((putK kvs k v).map (·.2)) ((dPutT ds k d).map (·.2)) := by
  unfold putK dPutT
  rw [keys_any e]
  by_cases q : (ds.any fun kv => decide (kv.1 = k)) = true
  · rw [if_pos q, if_pos q]
    clear q
    induction kvs generalizing ds with
    | nil => cases ds with
      | nil => exact ⟨rfl, .nil⟩
      | cons => simp at e
    | cons p kvs ih => cases ds with
      | nil => simp at e
      | cons q ds =>
        simp only [List.map_cons, List.cons.injEq] at e
        cases r with
        | cons r1 r2 =>
          obtain ⟨i1, i2⟩ := ih e.2 r2
          simp only [List.map_cons]
          by_cases hk : q.1 = k
          · rw [if_pos (e.1.trans hk), if_pos hk]
            exact ⟨by rw [i1, e.1], .cons r' i2⟩
          · rw [if_neg (fun z => hk (e.1.symm.trans z)), if_neg hk]
            exact ⟨by rw [i1, e.1], .cons r1 i2⟩
  · rw [if_neg q, if_neg q]
    simp only [List.map_append, List.map_cons, List.map_nil]
    exact ⟨by rw [e], r.append (.cons r' .nil)⟩
end
def dIxT (ta : TD) (ts : TDs) : TD := fun ρ h => (ta ρ h).bind fun x h => (ts ρ h).bind fun ds h => match x with
  | .ref k => match h.ob k, keysL ds with
    | some (.dctT kvs), some ks => if ds.length ≤ sizeLine then (match dGetT kvs ks with
      | some d => .ok d h
      | none => .no) else .no
    | _, _ => .no
  | _ => .no
def gdSubT (ta : TD) (ts : TDs) : TGD := fun d ρ h => (ta ρ h).calm fun x h => (ts ρ h).calm fun ds h => match x with
  | .ref k => match h.ob k, keysL ds with
    | some (.dctT kvs), some ks => if ds.length ≤ sizeLine ∧ kvs.length < sizeLine then .ok ρ (h.put k (.dctT (dPutT kvs ks d))) else .no
    | _, _ => .no
  | _ => .no
section
variable {X : Cx} {K : PySem.W.Frag} {CA : CAs} {W : WX} {a o e : Expr} {es : List Expr} {x1 : Nat} {pos p2 : Pos} {ha : TE} {ta : TD} {hs : TA} {ts : TDs}
/-- a[e1, e2] -/
theorem we_ixT (hu : X.A.units + 1 < cLine) (x : WE X K CA W a ha ta) (y : WA X K CA W es hs ts) (hK : X.K = K := by rfl) (hp : PlainIx (.Tuple es x1 p2) := by exact fun _ _ => rfl) : WE X K CA W (.Subscript a (.Tuple es x1 p2) pos) (L2.tOp (rIxU K) ha (L2.tTup hs)) (dIxT ta ts) := by
  refine ⟨pe_ix (ixU hu hK) x.pe (pe_tup y.pe) hp, fun m h H σ ρ Q' S t => x.sim m h H σ ρ _ S (t.bind fun d h1 m1 v H1 s1 S1 r1 t1 => y.sim m1 h1 H1 σ ρ _ (S.move s1 S1) (t1.bind fun ds h2 m2 vs H2 s2 S2 r2 t2 => ?_))⟩
  split at t2
  · rename_i k
    split at t2
    · rename_i kvs ks eo ek
      obtain ⟨l, t3⟩ := post_ite t2
      split at t3
      · rename_i d eg
        have ev := rp_ref (r1.move s2)
        subst ev
        obtain ⟨xs, e1, en, rr⟩ := mo_dctT S2 eo
        obtain ⟨w, g1, g2⟩ := rp_dgetT en rr eg
        have evs := rp_keysL r2 ek
        refine ⟨by rw [r2.length]; exact l, fun p n => .inr ⟨_, w, rfl, ?_, t3 m2 w _ (stp_laid S2 n) (S2.laid n) (g2.move (stp_laid S2 n))⟩⟩
        rw [← g1]
        exact DGet.t (by rw [upd_ne (ne_of_none e1 n)]; exact e1) (by rw [upd_same, evs])
      · exact t3.elim
    · exact t2.elim
  · exact t2.elim
/-- a[e1, e2] = .. -/
theorem wg_subT (hu : X.A.units + 1 < cLine) (x : WE X K CA W a ha ta) (y : WA X K CA W es hs ts) (hp : PE X a ha → PE X (.Tuple es x1 p2) (L2.tTup hs) → PSet X rSetU → PG X e (gSub ha (L2.tTup hs) rSetU)) : WG X K CA e [] (gSub ha (L2.tTup hs) rSetU) (gdSubT ta ts) := by
  refine ⟨hp x.pe (pe_tup y.pe) (set_U hu), fun m hh H σ ρ v d Q' S r q => x.sim m hh H σ ρ _ S (PostT'.calm q fun a h1 m1 w H1 s1 S1 r1 q1 => y.sim m1 h1 H1 σ ρ _ (S.move s1 S1) (PostT'.calm q1 fun ds h2 m2 vs H2 s2 S2 r2 q2 => ?_))⟩
  split at q2
  · rename_i k
    split at q2
    · rename_i kvs ks eo ek
      by_cases c : ds.length ≤ sizeLine ∧ kvs.length < sizeLine
      · rw [if_pos c] at q2
        have ev := rp_ref (r1.move s2)
        subst ev
        have evs := rp_keysL r2 ek
        have SS := (S.move s1 S1).move s2 S2
        have rv := (r.move s1).move s2
        refine ⟨by rw [r2.length]; exact c.1, fun p n => ?_⟩
        have sL := stp_laid (u := .tup vs) S2 n
        have S3 := S2.laid (u := .tup vs) n
        obtain ⟨xs, e1, en, rr⟩ := mo_dctT S3 eo
        obtain ⟨i1, i2⟩ := rp_dputT (k := ks) en rr (rv.move sL)
        have sp := stp_put (o' := .dctT (dPutT kvs ks d)) (u := .dT (putK xs ks v)) S3 eo trivial
        have lx : xs.length = kvs.length := by simpa using congrArg List.length en
        exact .inr ⟨_, _, rfl, DPut.t e1 (by rw [upd_same, evs]) (by rw [lx]; exact c.2), q2 m2 σ _ (sL.trans sp) ((SS.move sL S3).move sp (S3.put eo (.dctT upd_same i1 (i2.mv (mv_put eo))))) rfl fun _ _ => rfl⟩
      · rw [if_neg c] at q2; exact q2.elim
    · exact q2.elim
  · exact q2.elim
end
end CM
/-! dict comprehensions: one walk's turn for any body; keys that are tuples; two clauses -/
namespace CM
open PySem PySem.Spec PyProof.Rows L2
abbrev NoE : Value → Shared → Prop := fun _ _ => False
/-- the tests of a clause -/
abbrev tests (ifs : List Expr) (env : Env) : Sem Bool := forIn ifs true fun c r => if r = true then do let ok ← isTrue c env (eval c env); pure (ForInStep.yield ok) else pure (ForInStep.yield r)
/-- what a turn of the clause c of the comprehension E does; bk: what it does with what comes behind its body -/
def TurnIs (E : Expr) (c : Nat) (tg iter : Expr) (ifs : List Expr) (it acc : Value) (env : Env) (bk : Sem Fin → Sem Fin) : Prop :=
  compTurn E c it acc env = (standAt iter.pos >>= fun _ => pyNext it >>= fun r => match r with
    | none => pure (.done .next)
    | some v => letOwnedTupleGo tg it v >>= fun _ => assign tg env v >>= fun _ => tests ifs env >>= fun ok => if ok = true then bk (again (.compLoop E c it acc env)) else again (.compLoop E c it acc env))
section
variable {prog : Program} {w : World} {A : Around} {R : Result → Shared → Prop} {s : Shared} {kx vx tg iter : Expr} {gens : List Comprehension} {scope : Scope} {pos : Pos} {ifs : List Expr} {c : Nat} {it acc : Value} {env : Env} {bk : Sem Fin → Sem Fin} {Wsh : (Shared → Prop) → Shared → Prop}
theorem g_loop (eq : TurnIs (.DictComp kx vx gens scope pos) c tg iter ifs it acc env bk)
    (hbk : ∀ (P : Shared → Prop) (k : Sem Fin) (Q : Fin → Shared → Prop) (E' : Value → Shared → Prop) (s : Shared), Wsh P s → (∀ s', P s' → wpAny (model prog w) A k Q E' s') → wpAny (model prog w) A (bk k) Q E' s) (I : Nat → Shared → Prop)
    (turn : ∀ n s, I n s → wpAny (model prog w) A (pyNext it) (fun r s1 => match r with
      | none => R (.ok .next) s1
      | some v => wpAny (model prog w) A (letOwnedTupleGo tg it v) (fun _ s2 => wpAny (model prog w) A (assign tg env v) (fun _ s3 => wpAny (model prog w) A (tests ifs env)
          (fun ok s4 => if ok = true then Wsh (fun s5 => ∃ m, m < n ∧ I m s5) s4 else ∃ m, m < n ∧ I m s4) NoE s3) NoE s2) NoE s1) NoE s)
    (n : Nat) (h : I n s) : codeAny (model prog w) A (.compLoop (.DictComp kx vx gens scope pos) c it acc env) R s := by
  have up : ∀ {α : Type} {t : Sem α} {Q Q' : α → Shared → Prop} {E' : Value → Shared → Prop} {s : Shared}, wpAny (model prog w) A t Q NoE s → (∀ a s, Q a s → Q' a s) → wpAny (model prog w) A t Q' E' s := fun h hQ => wpAny_mono h hQ fun _ _ z => z.elim
  refine codeAny_loop rfl I (fun n s hI => ?_) n h
  show wpAny _ A ((compTurn (.DictComp kx vx gens scope pos) c it acc env).onRaise (fun x => do noteFrame x env; theTreesLotGoes x)) _ _ s
  refine wpAny_noted ?_
  rw [show compTurn (.DictComp kx vx gens scope pos) c it acc env = _ from eq]
  refine wpAny_bind (wpAny_standAt (wpAny_bind (up (turn n s hI) fun r s1 q1 => ?_)))
  cases r with
  | none => exact wpAny_pure q1
  | some v =>
    refine wpAny_bind (up q1 fun _ s2 q2 => wpAny_bind (up q2 fun _ s3 q3 => wpAny_bind (up q3 fun ok s4 q4 => ?_)))
    cases ok with
    | false => exact wpAny_pure ⟨rfl, q4⟩
    | true => exact hbk _ _ _ _ _ q4 fun s5 q5 => wpAny_pure ⟨rfl, q5⟩
end
abbrev putB (kx vx : Expr) (D : Addr) (env : Env) : Sem Unit := do
      let kv ← eval kx env
      let vv ← holding [kv] (eval vx env)
      standAt { kx.pos with endLine := vx.pos.endLine, endCol := vx.pos.endCol }
      holding [kv, vv] (dictSet D kv vv)
theorem turn_one {kx vx tg iter : Expr} {ifs : List Expr} {scope : Scope} {pos : Pos} {it : Value} {D : Addr} {env : Env} :
    TurnIs (.DictComp kx vx [⟨tg, iter, ifs, 0⟩] scope pos) 0 tg iter ifs it (.ref D) env (fun k => putB kx vx D env >>= fun _ => k) := by
  unfold TurnIs
  rfl
theorem turn_in {kx vx t0 i0 tg iter : Expr} {ifs0 ifs : List Expr} {scope : Scope} {pos : Pos} {it : Value} {D : Addr} {env : Env} :
    TurnIs (.DictComp kx vx [⟨t0, i0, ifs0, 0⟩, ⟨tg, iter, ifs, 0⟩] scope pos) 1 tg iter ifs it (.ref D) env (fun k => putB kx vx D env >>= fun _ => k) := by
  unfold TurnIs
  rfl
theorem turn_out {kx vx t0 i0 tg iter : Expr} {ifs0 ifs : List Expr} {scope : Scope} {pos : Pos} {it : Value} {D : Addr} {env : Env} :
    TurnIs (.DictComp kx vx [⟨t0, i0, ifs0, 0⟩, ⟨tg, iter, ifs, 0⟩] scope pos) 0 t0 i0 ifs0 it (.ref D) env (fun k => eval iter env >>= fun x => standAt iter.pos >>= fun _ => foldedSetIterable iter env x >>= fun x => holding [x] (pyIter x) >>= fun i =>
      runOwn (.compStart (.DictComp kx vx [⟨t0, i0, ifs0, 0⟩, ⟨tg, iter, ifs, 0⟩] scope pos) 1 i (.ref D) env) env >>= fun _ => k) := by
  unfold TurnIs
  rfl
/-- the wish of a body that stores -/
def wPut (P : Program) (w : World) (A : Around) (kx vx : Expr) (D : Addr) (env : Env) (P1 : Shared → Prop) (s : Shared) : Prop :=
  wpAny (model P w) A (eval kx env) (fun kv s1 => wpAny (model P w) A (eval vx env) (fun vv s2 => wpAny (model P w) A (dictSet D kv vv) (fun _ s3 => P1 s3) NoE s2) NoE s1) NoE s
theorem bk_put {P : Program} {w : World} {A : Around} {kx vx : Expr} {D : Addr} {env : Env} (P1 : Shared → Prop) (k : Sem Fin) (Q : Fin → Shared → Prop) (E' : Value → Shared → Prop) (s : Shared) (h : wPut P w A kx vx D env P1 s) (hk : ∀ s', P1 s' → wpAny (model P w) A k Q E' s') :
    wpAny (model P w) A (putB kx vx D env >>= fun _ => k) Q E' s := by
  have up : ∀ {α : Type} {t : Sem α} {Q Q' : α → Shared → Prop} {E' : Value → Shared → Prop} {s : Shared}, wpAny (model P w) A t Q NoE s → (∀ a s, Q a s → Q' a s) → wpAny (model P w) A t Q' E' s := fun h hQ => wpAny_mono h hQ fun _ _ z => z.elim
  refine wpAny_bind (wpAny_bind (up h fun kv s1 q1 => wpAny_bind (wpAny_holding (up q1 fun vv s2 q2 => wpAny_bind (wpAny_standAt (wpAny_holding (up q2 fun _ s3 q3 => hk s3 q3)))))))
/-- the wish of a body that is a walk of its own -/
def wOut (P : Program) (w : World) (A : Around) (E iter : Expr) (D : Addr) (env : Env) (P1 : Shared → Prop) (s : Shared) : Prop :=
  wpAny (model P w) A (eval iter env) (fun x s1 => wpAny (model P w) A (pyIter x) (fun i s2 => codeAny (model P w) A (.compStart E 1 i (.ref D) env) (fun r s' => match r with
    | .ok _ => P1 s'
    | .error _ => False) s2) NoE s1) NoE s
theorem bk_out {P : Program} {w : World} {A : Around} {E iter : Expr} {D : Addr} {env : Env} (hs : ∀ x, foldedSetIterable iter env x = pure x) (P1 : Shared → Prop) (k : Sem Fin) (Q : Fin → Shared → Prop) (E' : Value → Shared → Prop) (s : Shared) (h : wOut P w A E iter D env P1 s) (hk : ∀ s', P1 s' → wpAny (model P w) A k Q E' s') :
    wpAny (model P w) A (eval iter env >>= fun x => standAt iter.pos >>= fun _ => foldedSetIterable iter env x >>= fun x => holding [x] (pyIter x) >>= fun i => runOwn (.compStart E 1 i (.ref D) env) env >>= fun _ => k) Q E' s := by
  have up : ∀ {α : Type} {t : Sem α} {Q Q' : α → Shared → Prop} {E' : Value → Shared → Prop} {s : Shared}, wpAny (model P w) A t Q NoE s → (∀ a s, Q a s → Q' a s) → wpAny (model P w) A t Q' E' s := fun h hQ => wpAny_mono h hQ fun _ _ z => z.elim
  refine wpAny_bind (up h fun x s1 q1 => wpAny_bind (wpAny_standAt (wpAny_bind (wpAny_of_eq (hs x) (wpAny_bind (wpAny_holding (up q1 fun i s2 q2 => wpAny_bind (wpAny_runOwn ?_))))))))
  rw [Around.mark_none]
  refine codeAny_mono q2 fun r s' hr => ?_
  cases r with
  | ok f => exact hk s' hr
  | error e => exact hr.elim
section
variable {Y : Cx} {pins : List (Addr × Obj)} {σb : L2.St} {vs : List Nat} {J : It} {fp : List Addr} {ia : Addr} {tn : Nat → Heap → Prop} {g : TG} {tt : TT} {tb : L2.St → Hp → (Hp → Prop) → Prop} {W : Nat → Nat → Hp → Prop} {Done : Hp → Prop}
  {R : Result → Shared → Prop} {kx vx tg iter : Expr} {gens : List Comprehension} {scope : Scope} {pos : Pos} {ifs : List Expr} {c : Nat} {acc : Value} {bk : Sem Fin → Sem Fin} {Wsh : (Shared → Prop) → Shared → Prop}
/-- a clause's walk, its body known -/
theorem b_loop (hc : Y.calm = true) (hx : Y.xe = NoE) (T : Turn Y.prog Y.w Y.K tg J fp ia tn) (eq : TurnIs (.DictComp kx vx gens scope pos) c tg iter ifs (.ref ia) acc Y.env bk)
    (hbk : ∀ (P : Shared → Prop) (k : Sem Fin) (Q : Fin → Shared → Prop) (E' : Value → Shared → Prop) (s : Shared), Wsh P s → (∀ s', P s' → wpAny (model Y.prog Y.w) Y.A k Q E' s') → wpAny (model Y.prog Y.w) Y.A (bk k) Q E' s)
    (hm : ∀ (P P' : Shared → Prop) (s : Shared), (∀ s', P s' → P' s') → Wsh P s → Wsh P' s) (pg : PG Y tg g) (pt : PTs Y ifs tt)
    (hb : ∀ (pl : List (Addr × Obj)) (s : Shared) (σ2 : L2.St) (H : Hp) (Nx : Hp → Prop), Inv Y pl σ2 H s → wipe σ2 vs = wipe σb vs → tb σ2 H Nx → Wsh (fun s' => ∃ σ3 H', Inv Y pl σ3 H' s' ∧ σ3.length = σ2.length ∧ (∀ (j : Nat) v, (wipe σb vs)[j]? = some (some v) → σ3[j]? = some (some v)) ∧ Nx H') s)
    (fpo : ∀ {σ' : L2.St} {H' : Hp} {s' : Shared}, Inv Y pins σ' H' s' → (∀ b ∈ fp, H' b = none) → ∀ b ∈ fp, FpOk Y pins H' b)
    (turn : ∀ i m H, W i m H → (J.stop i H ∧ Done H) ∨ (J.go i H ∧ ∃ Nx : Hp → Prop, (∀ H', Nx H' → ∃ m', m' < m ∧ W (i + 1) m' H') ∧ ∀ x H', J.yld i H x H' → g x (wipe σb vs) H' fun σ2 H2 => wipe σ2 vs = wipe σb vs ∧ tt σ2 H2 fun b H3 => if b = true then tb σ2 H3 Nx else Nx H3))
    (hR : ∀ s' H', Inv Y pins (wipe σb vs) H' s' → Done H' → R (.ok .next) s') {m0 : Nat} {H0 : Hp} {s0 : Shared} (I0 : Inv Y pins (wipe σb vs) H0 s0) (st0 : tn 0 s0.heap) (n0 : ∀ b ∈ fp, H0 b = none) (w0 : W 0 m0 H0) :
    codeAny (model Y.prog Y.w) Y.A (.compLoop (.DictComp kx vx gens scope pos) c (.ref ia) acc Y.env) R s0 := by
  refine g_loop eq hbk (fun n s' => ∃ i H', Inv Y pins (wipe σb vs) H' s' ∧ tn i s'.heap ∧ (∀ b ∈ fp, H' b = none) ∧ W i n H') ?_ m0 ⟨0, H0, I0, st0, n0, w0⟩
  rintro n s5 ⟨i, H5, I5, st5, n5, w5⟩
  rcases turn i n H5 w5 with ⟨stop, dn⟩ | ⟨go, Nx, hNx, step⟩
  · refine wpAny_mono (T.done Y rfl rfl rfl hc i pins s5 _ H5 NoE I5 (fpo I5 n5) st5 stop) (fun r s6 q => ?_) (fun _ _ z => z)
    obtain ⟨rfl, I6⟩ := q
    exact hR _ _ I6 dn
  · refine wpAny_mono (T.item Y rfl rfl rfl hc i pins s5 _ H5 NoE I5 (fpo I5 n5) st5 go) (fun r s6 q => ?_) (fun _ _ z => z)
    obtain ⟨u, rfl, h6⟩ := q
    refine wpAny_mono h6 (fun _ s7 q => ?_) (fun _ _ z => z)
    obtain ⟨x, H7, I7, r7, y7, st7, n7⟩ := q
    have IP := I7.pinned (fpo I7 n7) (T.obj _ _ st7)
    have hpg := pg.run _ s7 _ H7 x u _ IP r7 (step x H7 y7)
    rw [hx] at hpg
    refine wpAny_mono hpg (fun _ s8 q => ?_) (fun _ _ z => z)
    obtain ⟨σ8, H8, I8, hw8, q8⟩ := q
    have hpt := pt.run _ s8 σ8 H8 _ I8 q8
    rw [hx] at hpt
    refine wpAny_mono hpt (fun b s9 q => ?_) (fun _ _ z => z)
    obtain ⟨H9, I9, q9⟩ := q
    have l8 : σ8.length = (wipe σb vs).length := by rw [← hw8, wipe_length]
    have fin : ∀ {s' : Shared}, (∃ σ3 H', Inv Y (pins ++ pinsAt fp s7.heap) σ3 H' s' ∧ σ3.length = σ8.length ∧ (∀ (j : Nat) v, (wipe σb vs)[j]? = some (some v) → σ3[j]? = some (some v)) ∧ Nx H') →
        ∃ m, m < n ∧ ∃ i H', Inv Y pins (wipe σb vs) H' s' ∧ tn i s'.heap ∧ (∀ b ∈ fp, H' b = none) ∧ W i m H' := fun {s'} q => by
      obtain ⟨σ3, H', I', hl, hk, nx⟩ := q
      obtain ⟨m', hm, w'⟩ := hNx H' nx
      have stay : ∀ b ∈ fp, ∀ o, s7.heap.get? b = some o → s'.heap.get? b = some o ∧ H' b = none := fun b hb o e => by
        obtain ⟨z1, z2, _⟩ := I'.pin (b, o) (List.mem_append_right _ (List.mem_append_right _ (mem_pinsAt hb e)))
        exact ⟨z1, z2⟩
      refine ⟨m', hm, i + 1, H', I'.unpinned.weak (by rw [hl, l8]) hk, T.keep _ _ _ st7 fun b hb o e => (stay b hb o e).1, fun b hb => ?_, w'⟩
      obtain ⟨o, e, _⟩ := T.obj _ _ st7 b hb
      exact (stay b hb o e).2
    cases b with
    | false =>
      rw [if_neg Bool.false_ne_true] at q9 ⊢
      exact fin ⟨σ8, H9, I9, rfl, fun j v e => (wipe_some (by rw [hw8]; exact e)).1, q9⟩
    | true =>
      rw [if_pos rfl] at q9 ⊢
      exact hm _ _ _ (fun s' => fin) (hb _ s9 σ8 H9 Nx I9 hw8 q9)
end
theorem c_start1 {P : Program} {w : World} {A : Around} {R : Result → Shared → Prop} {s : Shared} {kx vx t0 i0 tg iter : Expr} {ifs0 ifs : List Expr} {scope : Scope} {pos : Pos} {it acc : Value} {env : Env}
    (h0 : codeAny (model P w) A (.compLoop (.DictComp kx vx [⟨t0, i0, ifs0, 0⟩, ⟨tg, iter, ifs, 0⟩] scope pos) 1 it acc env) R s)
    (h : wpAny (model P w) A (pyIter it) (fun i s' => codeAny (model P w) A (.compLoop (.DictComp kx vx [⟨t0, i0, ifs0, 0⟩, ⟨tg, iter, ifs, 0⟩] scope pos) 1 i acc env) R s') NoE s) :
    codeAny (model P w) A (.compStart (.DictComp kx vx [⟨t0, i0, ifs0, 0⟩, ⟨tg, iter, ifs, 0⟩] scope pos) 1 it acc env) R s := by
  refine codeAny_of_tree ?_
  show wpAny _ A ((compStart (.DictComp kx vx [⟨t0, i0, ifs0, 0⟩, ⟨tg, iter, ifs, 0⟩] scope pos) 1 it acc env).onRaise (fun x => do noteFrame x env; standAt theWindowsPlace)) _ _ s
  refine wpAny_notedAt ?_
  unfold compStart
  show wpAny _ A (ask >>= _) _ _ s
  refine wpAny_bind (wpAny_askSetting (wpAny_ite ?_))
  have go : ∀ {E' : Value → Shared → Prop}, wpAny (model P w) A (pyIter it) (fun i s' => codeAny (model P w) A (.compLoop (.DictComp kx vx [⟨t0, i0, ifs0, 0⟩, ⟨tg, iter, ifs, 0⟩] scope pos) 1 i acc env) R s') E' s := fun {E'} => wpAny_mono h (fun _ _ z => z) fun _ _ z => z.elim
  split
  · first
      | exact wpAny_bind (wpAny_pure (wpAny_pure ⟨rfl, h0⟩))
      | exact wpAny_pure ⟨rfl, h0⟩
  · first
      | exact wpAny_bind (wpAny_rule (wpAny_bind (wpAny_standAt (wpAny_bind (wpAny_mono go (fun i s' q => wpAny_pure ⟨rfl, q⟩) fun _ _ z => z)))))
      | (refine wpAny_bind (wpAny_rule ?_); show wpAny _ _ (standAt iter.pos >>= _) _ _ s; exact wpAny_bind (wpAny_standAt (wpAny_bind (wpAny_mono go (fun i s' q => wpAny_pure ⟨rfl, q⟩) fun _ _ z => z))))
/-- a dict comprehension; tb: what its body wishes, at the new dict -/
def tDcG (u0 : HO) (wi : TI) (g : TG) (tt : TT) (tb : Addr → L2.St → Hp → (Hp → Prop) → Prop) (vs : List Nat) : TE := fun σ H Q => wi σ H fun J H1 => ∀ D, H1 D = none → ∃ W : Nat → Nat → Hp → Prop, (∃ m, W 0 m (upd H1 D u0)) ∧ ∀ i m H, W i m H →
  (J.stop i H ∧ Q (.ref D) H) ∨ (J.go i H ∧ ∃ Nx : Hp → Prop, (∀ H', Nx H' → ∃ m', m' < m ∧ W (i + 1) m' H') ∧ ∀ x H', J.yld i H x H' → g x (wipe σ vs) H' fun σ2 H2 => wipe σ2 vs = wipe σ vs ∧ tt σ2 H2 fun b H3 => if b = true then tb D σ2 H3 Nx else Nx H3)
section
variable {X : Cx} {kx vx tg iter : Expr} {ifs : List Expr} {rest : List Comprehension} {scope : Scope} {own : List (Str × Nat)} {pos : Pos} {wi : TI} {g : TG} {tt : TT} {tb : Addr → L2.St → Hp → (Hp → Prop) → Prop} {u0 : HO} {bk : Addr → Env → Sem Fin → Sem Fin} {Wsh : Addr → Env → (Shared → Prop) → Shared → Prop}
theorem dcG_core {use : Option (Value → Sem Unit)} {Qf : Value → Shared → Prop} {pins : List (Addr × Obj)} {s : Shared} {σ : L2.St} {H : Hp} {Q : VK} {pos' : Pos} (hc : X.calm = true) (hN : X.N.Nodup) (hi : PI X tg iter wi) (ok : BlkOk X.N X.env.scope scope own) (eq : ∀ (D : Addr) (it : Value) (env : Env), TurnIs (.DictComp kx vx (⟨tg, iter, ifs, 0⟩ :: rest) scope pos) 0 tg iter ifs it (.ref D) env (bk D env))
    (hbk : ∀ (D : Addr) (env : Env) (P : Shared → Prop) (k : Sem Fin) (Q : Fin → Shared → Prop) (E' : Value → Shared → Prop) (s : Shared), Wsh D env P s → (∀ s', P s' → wpAny (model X.prog X.w) X.A k Q E' s') → wpAny (model X.prog X.w) X.A (bk D env k) Q E' s)
    (hm : ∀ (D : Addr) (env : Env) (P P' : Shared → Prop) (s : Shared), (∀ s', P s' → P' s') → Wsh D env P s → Wsh D env P' s)
    (hg : ∀ (s : Shared) (H : Hp) (C : Addr) (cl : List (Str × Addr)) (fp : List Addr), PG (X.blk s H scope (compEnvC scope cl C X.env) fp) tg g) (ht : ∀ (s : Shared) (H : Hp) (C : Addr) (cl : List (Str × Addr)) (fp : List Addr), PTs (X.blk s H scope (compEnvC scope cl C X.env) fp) ifs tt)
    (hb : ∀ (s0 : Shared) (H0 : Hp) (C : Addr) (cl : List (Str × Addr)) (fp : List Addr) (D : Addr) (pl : List (Addr × Obj)) (s : Shared) (σb σ2 : L2.St) (H : Hp) (Nx : Hp → Prop), Inv (X.blk s0 H0 scope (compEnvC scope cl C X.env) fp) pl σ2 H s → wipe σ2 (own.map (·.2)) = wipe σb (own.map (·.2)) → tb D σ2 H Nx →
      Wsh D (compEnvC scope cl C X.env) (fun s' => ∃ σ3 H', Inv (X.blk s0 H0 scope (compEnvC scope cl C X.env) fp) pl σ3 H' s' ∧ σ3.length = σ2.length ∧ (∀ (j : Nat) v, (wipe σb (own.map (·.2)))[j]? = some (some v) → σ3[j]? = some (some v)) ∧ Nx H') s)
    (h0 : ∀ (H : Hp) (h : Heap), sysModules < h.objs.size → ObjOk X.prog X.w H (h.push { cls := .type "dict", data := .dict #[] }) h.objs.size u0) (hs : ∀ x, foldedSetIterable iter X.env x = pure x)
    (I : Inv X pins σ H s) (h : tDcG u0 wi g tt tb (own.map (·.2)) σ H Q) (hRR : ∀ D C s' m H', Inv X pins σ H' s' → Q (.ref D) H' → s'.heap.Ns C m → FpOk X pins H' C → compPost (model X.prog X.w) X.A X.xe use Qf (.ref D) C (.ok .next) s') :
    wpAny (model X.prog X.w) X.A (comprehension (.DictComp kx vx (⟨tg, iter, ifs, 0⟩ :: rest) scope pos) scope X.env pos' newDict false (eval iter X.env) use) Qf X.xe s := by
  have fr : ∀ y ∈ scope.names, y.2 = .free → ∃ c, X.env.cells.lookup y.1 = some c := fun y hy e => (ok.free y hy e).elim (fun k => I.ok.has _ (.inl k)) fun k => I.ok.has _ (.inr k)
  refine wpAny_comprehension_free (use := use) rfl hs (closure_ok fr) ok.kind (fun y hy e => by rw [ok.uniq y hy, e]) (thn (hi.run pins s σ H _ I h) fun xv s1 hx => thn hx fun itv s2 pe => ?_)
  obtain ⟨ia, fp, tn, J, H2, rfl, I2, T, st2, f2, q⟩ := pe
  refine wpAny_newObj_type (newEnv_comp ?_)
  obtain ⟨W, ⟨m0, w0⟩, turn⟩ := q s2.heap.objs.size (I2.hok.fresh (Nat.le_refl _))
  generalize eH3 : upd H2 s2.heap.objs.size u0 = H3 at w0
  generalize es3 : ({ s2 with heap := s2.heap.push { cls := .type "dict", data := .dict #[] } } : Shared) = s3
  have k3 : ∀ b o, s2.heap.get? b = some o → s3.heap.get? b = some o := fun b o e => by rw [← es3]; exact Heap.get?_push_of_some _ e
  have I3 : Inv X pins σ H3 s3 := by
    rw [← es3, ← eH3]
    exact I2.laid (t' := s2.toks) (fun b o e => Heap.get?_push_of_some _ e) (Nat.le_refl _) (h0 _ _ I2.big)
  have sz3 : s3.heap.objs.size = s2.heap.objs.size + 1 := by rw [← es3]; exact Heap.size_push _ _
  have low : ∀ b ∈ fp, b < s2.heap.objs.size := fun b hb => by
    obtain ⟨o, e, _⟩ := T.obj _ _ st2 b hb
    exact Heap.lt_size e
  have f3 : ∀ b ∈ fp, FpOk X pins H3 b ∧ b < s3.heap.objs.size := fun b hb => ⟨⟨by rw [← eH3, upd_ne (Nat.ne_of_lt (low b hb))]; exact (f2 b hb).1, (f2 b hb).2⟩, by rw [sz3]; exact Nat.lt_succ_of_lt (low b hb)⟩
  have st3 : tn 0 s3.heap := T.keep _ _ _ st2 fun b _ o e => k3 b o e
  have I4 := block_start I3 ok hN f3
  show codeAny _ _ (.compStart (.DictComp kx vx (⟨tg, iter, ifs, 0⟩ :: rest) scope pos) 0 (.ref ia) (.ref s2.heap.objs.size) (compEnvC scope (cellsFrom (s3.heap.objs.size + 1) scope.names (cloFrom X.env.cells scope.names [])) s3.heap.objs.size X.env)) _ { s3 with heap := pushCells (s3.heap.push { cls := .type "dict", data := .dict #[] }) scope.names }
  generalize ecl : cellsFrom (s3.heap.objs.size + 1) scope.names (cloFrom X.env.cells scope.names []) = cl at I4 ⊢
  have hg' := hg s3 H3 s3.heap.objs.size cl fp
  have ht' := ht s3 H3 s3.heap.objs.size cl fp
  have hb' := hb s3 H3 s3.heap.objs.size cl fp s2.heap.objs.size
  generalize es4 : ({ s3 with heap := pushCells (s3.heap.push { cls := .type "dict", data := .dict #[] }) scope.names } : Shared) = s4 at I4 ⊢
  have st4 : tn 0 s4.heap := T.keep _ _ _ st3 fun b _ o e => by rw [← es4]; exact pushCells_keeps _ _ _ _ (Heap.get?_push_of_some _ e)
  have loop : codeAny (model X.prog X.w) X.A (.compLoop (.DictComp kx vx (⟨tg, iter, ifs, 0⟩ :: rest) scope pos) 0 (.ref ia) (.ref s2.heap.objs.size) (compEnvC scope cl s3.heap.objs.size X.env)) (compPost (model X.prog X.w) X.A X.xe use Qf (.ref s2.heap.objs.size) s3.heap.objs.size) s4 := by
    refine b_loop (Y := X.blk s3 H3 scope (compEnvC scope cl s3.heap.objs.size X.env) fp) (pins := []) (vs := own.map (·.2)) (σb := σ) (Done := Q (.ref s2.heap.objs.size)) hc rfl T (eq _ _ _) (hbk _ _) (hm _ _) hg' ht' (fun pl s σ2 H Nx I' hw q => hb' pl s σ σ2 H Nx I' hw q) (fun {σ' H' s'} I' hn b hb => ?_) turn (fun s' H' I' dn => ?_) I4 st4 (fun b hb => (f3 b hb).1.1) w0
    · exact ⟨hn b hb, (I'.ok.exf b hb).1, I'.ok.exfs b hb, .inl hb, fun x c e => (I'.ok.exf b hb).2 x c e, fun p hp => absurd (show p ∈ ([] : List (Addr × Obj)) ++ [] from hp) (by simp)⟩
    · have I7 : Inv X pins σ H' s' := I3.call' (ch := fp) I'.os I'.base I'.hok I'.bare fun b hb => ⟨(f3 b hb).1.2.2.2.1, (f3 b hb).1.2.1, (f3 b hb).1.2.2.2.2.1, (f3 b hb).1.2.2.2.2.2⟩
      have nC : H' s3.heap.objs.size = none := I'.free
      obtain ⟨m, hn, _⟩ := I'.loc
      exact hRR _ _ s' m H' I7 dn hn (I3.fpOk (Nat.le_refl _) nC)
  exact codeAny_compStart_dict loop (T.self X.A 0 _ _ _ st4 loop)
theorem pe_dcG (hc : X.calm = true) (hN : X.N.Nodup) (hi : PI X tg iter wi) (ok : BlkOk X.N X.env.scope scope own) (eq : ∀ (D : Addr) (it : Value) (env : Env), TurnIs (.DictComp kx vx (⟨tg, iter, ifs, 0⟩ :: rest) scope pos) 0 tg iter ifs it (.ref D) env (bk D env))
    (hbk : ∀ (D : Addr) (env : Env) (P : Shared → Prop) (k : Sem Fin) (Q : Fin → Shared → Prop) (E' : Value → Shared → Prop) (s : Shared), Wsh D env P s → (∀ s', P s' → wpAny (model X.prog X.w) X.A k Q E' s') → wpAny (model X.prog X.w) X.A (bk D env k) Q E' s)
    (hm : ∀ (D : Addr) (env : Env) (P P' : Shared → Prop) (s : Shared), (∀ s', P s' → P' s') → Wsh D env P s → Wsh D env P' s)
    (hg : ∀ (s : Shared) (H : Hp) (C : Addr) (cl : List (Str × Addr)) (fp : List Addr), PG (X.blk s H scope (compEnvC scope cl C X.env) fp) tg g) (ht : ∀ (s : Shared) (H : Hp) (C : Addr) (cl : List (Str × Addr)) (fp : List Addr), PTs (X.blk s H scope (compEnvC scope cl C X.env) fp) ifs tt)
    (hb : ∀ (s0 : Shared) (H0 : Hp) (C : Addr) (cl : List (Str × Addr)) (fp : List Addr) (D : Addr) (pl : List (Addr × Obj)) (s : Shared) (σb σ2 : L2.St) (H : Hp) (Nx : Hp → Prop), Inv (X.blk s0 H0 scope (compEnvC scope cl C X.env) fp) pl σ2 H s → wipe σ2 (own.map (·.2)) = wipe σb (own.map (·.2)) → tb D σ2 H Nx →
      Wsh D (compEnvC scope cl C X.env) (fun s' => ∃ σ3 H', Inv (X.blk s0 H0 scope (compEnvC scope cl C X.env) fp) pl σ3 H' s' ∧ σ3.length = σ2.length ∧ (∀ (j : Nat) v, (wipe σb (own.map (·.2)))[j]? = some (some v) → σ3[j]? = some (some v)) ∧ Nx H') s)
    (h0 : ∀ (H : Hp) (h : Heap), sysModules < h.objs.size → ObjOk X.prog X.w H (h.push { cls := .type "dict", data := .dict #[] }) h.objs.size u0) (hs : ∀ x, foldedSetIterable iter X.env x = pure x := by intro _; rfl) :
    PE X (.DictComp kx vx (⟨tg, iter, ifs, 0⟩ :: rest) scope pos) (tDcG u0 wi g tt tb (own.map (·.2))) := by
  refine ⟨fun pins s σ H Q I h => ?_⟩
  rw [arm_eval_DictComp]
  refine dcG_core (bk := bk) (Wsh := Wsh) hc hN hi ok eq hbk hm hg ht hb h0 hs I h fun D C s' m H' I' q hn f => ⟨m, hn, fun h'' sb => ?_⟩
  obtain ⟨f0, f1, f2, f3, f4, f5⟩ := f
  exact ⟨.ref D, H', I'.turned (t' := s'.toks) (fun b o hb e => (sb.2 b hb).trans e) f0 f1 f3 f4 f5, rfl, q⟩
theorem ps_setDcG {i : Nat} {y : Str} {py spos : Pos} (hy : X.N[i]? = some y) (hyl : X.env.scope.names.lookup y = some .local) (hsw : swapsWith (.DictComp kx vx (⟨tg, iter, ifs, 0⟩ :: rest) scope pos) (some (.Name y py)) spos.line X.env = pure true) (hc : X.calm = true) (hN : X.N.Nodup) (hi : PI X tg iter wi) (ok : BlkOk X.N X.env.scope scope own) (eq : ∀ (D : Addr) (it : Value) (env : Env), TurnIs (.DictComp kx vx (⟨tg, iter, ifs, 0⟩ :: rest) scope pos) 0 tg iter ifs it (.ref D) env (bk D env))
    (hbk : ∀ (D : Addr) (env : Env) (P : Shared → Prop) (k : Sem Fin) (Q : Fin → Shared → Prop) (E' : Value → Shared → Prop) (s : Shared), Wsh D env P s → (∀ s', P s' → wpAny (model X.prog X.w) X.A k Q E' s') → wpAny (model X.prog X.w) X.A (bk D env k) Q E' s)
    (hm : ∀ (D : Addr) (env : Env) (P P' : Shared → Prop) (s : Shared), (∀ s', P s' → P' s') → Wsh D env P s → Wsh D env P' s)
    (hg : ∀ (s : Shared) (H : Hp) (C : Addr) (cl : List (Str × Addr)) (fp : List Addr), PG (X.blk s H scope (compEnvC scope cl C X.env) fp) tg g) (ht : ∀ (s : Shared) (H : Hp) (C : Addr) (cl : List (Str × Addr)) (fp : List Addr), PTs (X.blk s H scope (compEnvC scope cl C X.env) fp) ifs tt)
    (hb : ∀ (s0 : Shared) (H0 : Hp) (C : Addr) (cl : List (Str × Addr)) (fp : List Addr) (D : Addr) (pl : List (Addr × Obj)) (s : Shared) (σb σ2 : L2.St) (H : Hp) (Nx : Hp → Prop), Inv (X.blk s0 H0 scope (compEnvC scope cl C X.env) fp) pl σ2 H s → wipe σ2 (own.map (·.2)) = wipe σb (own.map (·.2)) → tb D σ2 H Nx →
      Wsh D (compEnvC scope cl C X.env) (fun s' => ∃ σ3 H', Inv (X.blk s0 H0 scope (compEnvC scope cl C X.env) fp) pl σ3 H' s' ∧ σ3.length = σ2.length ∧ (∀ (j : Nat) v, (wipe σb (own.map (·.2)))[j]? = some (some v) → σ3[j]? = some (some v)) ∧ Nx H') s)
    (h0 : ∀ (H : Hp) (h : Heap), sysModules < h.objs.size → ObjOk X.prog X.w H (h.push { cls := .type "dict", data := .dict #[] }) h.objs.size u0) (hs : ∀ x, foldedSetIterable iter X.env x = pure x) :
    PS X (.Assign [.Name y py] (.DictComp kx vx (⟨tg, iter, ifs, 0⟩ :: rest) scope pos) spos) (tAsg (tDcG u0 wi g tt tb (own.map (·.2))) (gName i)) := by
  refine ⟨fun pins s σ H D I h => ?_⟩
  rw [exec_Assign_Name_used _ _ _ _ hsw]
  refine wpAny_bind (wpAny_standAt (wpAny_bind ?_))
  show wpAny _ X.A (do let _ ← comprehension (.DictComp kx vx (⟨tg, iter, ifs, 0⟩ :: rest) scope pos) scope X.env (firstIterPos (⟨tg, iter, ifs, 0⟩ :: rest) pos) newDict false (eval iter X.env) (some (assign (.Name y py) X.env))) _ _ s
  have hq : tDcG u0 wi g tt tb (own.map (·.2)) σ H (fun x H1 => gName i x σ H1 D.nx) := h
  refine wpAny_bind (thn (dcG_core (bk := bk) (Wsh := Wsh) (Qf := fun _ s' => SP X pins D .next s') hc hN hi ok eq hbk hm hg ht hb h0 hs I hq fun L C s' m H' I' q hn f => ?_) fun _ s' z => wpAny_pure (wpAny_pure z))
  show wpAny _ _ (assign (.Name y py) X.env (.ref L)) _ _ _
  obtain ⟨f0, f1, f2, f3, f4, f5⟩ := f
  refine wpAny_assign_Name (store_ok2 (v := V.ref L) I' hN hy (.inl hyl) rfl (fun s2 I2 ⟨a, sb, ha⟩ => ?_) (.inr hyl))
  have ne : C ≠ a := ha.elim (fun z => by rw [z]; exact f1) fun z e => f4 y a z e.symm
  exact ⟨m, hn.sameBut sb ne, fun h3 sb3 => ⟨_, H', I2.turned (t' := s2.toks) (fun b o hb e => (sb3.2 b hb).trans e) f0 f1 f3 f4 f5, q⟩⟩
end
end CM
/-! readings of dict comprehensions: a walk with an account, its body any reading -/
namespace CM
open PySem PySem.Spec PyProof.Rows L2
def dGL {α : Type} (tg : TGD) (tt : TB) (body : α → DE → CH → R α) (ρ0 : DE) : α → List D → CH → R α
  | acc, [], h => .ok acc h
  | acc, d :: r, h => (tg d ρ0 h).calm fun ρ2 h => (tt ρ2 h).calm fun b h => if b = true then (body acc ρ2 h).calm fun acc h => dGL tg tt body ρ0 acc r h else dGL tg tt body ρ0 acc r h
section
variable {K : PySem.W.Frag} {CA : CAs} {α : Type}
/-- what a reading with an account ends with, the object at a being its own -/
def PB (K : PySem.W.Frag) (CA : CAs) (a : Addr) (m : Mp) (h : CH) (H : Hp) (P : α → Mp → CH → Hp → Prop) : R α → Prop
  | .ok x h' => ∀ m' H', Sc a m h H m' h' H' → HR K CA m' h' H' → P x m' h' H'
  | _ => False
theorem PB.base {a : Addr} {m m2 : Mp} {h h2 : CH} {H H2 : Hp} {P : α → Mp → CH → Hp → Prop} {r : R α} (s : Sc a m h H m2 h2 H2) (q : PB K CA a m h H P r) : PB K CA a m2 h2 H2 P r := by
  cases r with
  | ok x h' => exact fun m' H' s' S' => q m' H' (s.trans s') S'
  | ex => exact q
  | no => exact q
theorem PB.calm {β : Type} {a : Addr} {m : Mp} {h : CH} {H : Hp} {P : α → Mp → CH → Hp → Prop} {r : R β} {k : β → CH → R α} (q : PB K CA a m h H P (r.calm k)) : ∃ b h', r = .ok b h' ∧ PB K CA a m h H P (k b h') := by
  cases r with
  | ok b h' => exact ⟨b, h', rfl, q⟩
  | ex => exact q.elim
  | no => exact q.elim
theorem so_sc {a : Addr} {m m2 : Mp} {h h2 : CH} {H H2 : Hp} {σ : L2.St} {ρ : DE} (S : SO K CA m h H σ ρ) (s : Sc a m h H m2 h2 H2) (S2 : HR K CA m2 h2 H2) : SO K CA m2 h2 H2 σ ρ :=
  ⟨S2, S.len, fun j d e => let ⟨v, e1, q⟩ := S.sl j d e; ⟨v, e1, q.mv s.toMv⟩⟩
/-- accounts that stay when others' steps are done -/
def Moves (RA : Addr → α → Mp → CH → Hp → Prop) : Prop := ∀ (a : Addr) (x : α) (m : Mp) (h : CH) (H : Hp) (m' : Mp) (h' : CH) (H' : Hp), RA a x m h H → Stp m h H m' h' H' → a ∈ m.z → RA a x m' h' H'
def SimB (K : PySem.W.Frag) (CA : CAs) (RA : Addr → α → Mp → CH → Hp → Prop) (tb : Addr → L2.St → Hp → (Hp → Prop) → Prop) (body : α → DE → CH → R α) : Prop :=
  ∀ (a : Addr) (m : Mp) (h : CH) (H : Hp) (σ : L2.St) (ρ : DE) (x : α) (Nx : Hp → Prop), SO K CA m h H σ ρ → a ∈ m.z → RA a x m h H → PB K CA a m h H (fun y m' h' H' => RA a y m' h' H' → Nx H') (body x ρ h) → tb a σ H Nx
variable {RA : Addr → α → Mp → CH → Hp → Prop} {tb : Addr → L2.St → Hp → (Hp → Prop) → Prop} {body : α → DE → CH → R α} {gH : TG} {tg : TGD} {hT : TT} {tt : TB} {vs sl : List Nat} {J : It} {ds : List D} {m0 m1 : Mp} {h0 h1 : CH} {H0 H1 : Hp} {σ : L2.St} {ρ : DE} {a : Addr} {x : α} {Done : Hp → Prop}
theorem loop_sim (hg : SimG K CA sl gH tg) (ht : SimT K CA W0 hT tt) (hb : SimB K CA RA tb body) (mv : Moves RA) (ho : ∀ j, j ∈ sl → j ∈ vs) (wk : Wk K CA m0 h0 H0 J ds) (sz : Sz m0 h0 H0 m1 h1 H1) (S : SO K CA m1 h1 H1 σ ρ) (pz : a ∈ m1.z) (ra : RA a x m1 h1 H1)
    (fin : PB K CA a m1 h1 H1 (fun y m' h' H' => RA a y m' h' H' → Done H') (dGL tg tt body (wipeD ρ vs) x ds h1)) :
    ∃ W : Nat → Nat → Hp → Prop, (∃ n, W 0 n H1) ∧ ∀ i n H, W i n H → (J.stop i H ∧ Done H) ∨ (J.go i H ∧ ∃ Nx : Hp → Prop, (∀ H', Nx H' → ∃ n', n' < n ∧ W (i + 1) n' H') ∧ ∀ v H', J.yld i H v H' → gH v (wipe σ vs) H' fun σ2 H2 => wipe σ2 vs = wipe σ vs ∧ hT σ2 H2 fun b H3 => if b = true then tb a σ2 H3 Nx else Nx H3) := by
  refine ⟨fun i n H' => n + i = ds.length ∧ ∃ y m' h', Sc a m1 h1 H1 m' h' H' ∧ SO K CA m' h' H' σ ρ ∧ RA a y m' h' H' ∧ PB K CA a m' h' H' (fun y m' h' H' => RA a y m' h' H' → Done H') (dGL tg tt body (wipeD ρ vs) y (ds.drop i) h'), ⟨ds.length, rfl, x, m1, h1, Stp.sc .refl, S, ra, fin⟩, ?_⟩
  rintro i n H' ⟨hn, y, m', h', st, S', ra', q⟩
  have sz' := sz.trans st.toSz
  have pz' : a ∈ m'.z := by rw [st.z]; exact pz
  cases hd : ds[i]? with
  | none =>
    have hl : ds.length ≤ i := List.getElem?_eq_none_iff.mp hd
    obtain rfl : i = ds.length := by omega
    rw [List.drop_length] at q
    exact .inl ⟨wk.stop m' h' H' sz' S'.hr, q m' H' (Stp.sc .refl) S'.hr ra'⟩
  | some d =>
    obtain ⟨hlt, ed⟩ := List.getElem?_eq_some_iff.mp hd
    rw [List.drop_eq_getElem_cons hlt, ed] at q
    obtain ⟨go, yl⟩ := wk.go i m' h' H' d sz' S'.hr hd
    refine .inr ⟨go, fun H3 => ∃ y m' h', Sc a m1 h1 H1 m' h' H3 ∧ SO K CA m' h' H3 σ ρ ∧ RA a y m' h' H3 ∧ PB K CA a m' h' H3 (fun y m' h' H' => RA a y m' h' H' → Done H') (dGL tg tt body (wipeD ρ vs) y (ds.drop (i + 1)) h'), fun H3 n3 => ⟨n - 1, by omega, by omega, n3⟩, fun v H2 y2 => ?_⟩
    obtain ⟨gr, r2⟩ := yl v H2 y2
    have a2 := stp_grow S'.hr gr
    have S3 := S'.move a2 (S'.hr.grow gr)
    have st3 := st.trans (a2.sc (p := a))
    have ra3 := mv _ _ _ _ _ _ _ _ ra' a2 pz'
    have q3 := q.base (a2.sc (p := a))
    have wip : wipe (wipe σ vs) vs = wipe σ vs := wipe_eq (wipe_length _ _) fun j hj => wipe_at hj
    refine hg m' h' H2 (wipe σ vs) (wipeD ρ vs) v d _ (S3.wiped vs) r2 ?_
    unfold dGL at q3
    obtain ⟨ρ2, h4, eg, q4⟩ := q3.calm
    rw [eg]
    intro m4 σ4 H4 s4 S4 hl4 hn4
    refine ⟨(wipe_eq hl4 fun j hj => hn4 j fun z => hj (ho j z)).trans wip, ht m4 h4 H4 σ4 ρ2 _ S4 ?_⟩
    obtain ⟨b, h5, et, q5⟩ := (q4.base (s4.sc (p := a))).calm
    rw [et]
    have ra4 := mv _ _ _ _ _ _ _ _ ra3 s4 pz'
    have pz4 : a ∈ m4.z := by rw [s4.z]; exact pz'
    intro m5 b' H5 s5 S5 eb
    cases (show b' = b from eb)
    have ra5 := mv _ _ _ _ _ _ _ _ ra4 s5 pz4
    have pz5 : a ∈ m5.z := by rw [s5.z]; exact pz4
    have st5 := (st3.trans (s4.sc (p := a))).trans (s5.sc (p := a))
    have So5 := (S3.move s4 S4.hr).move s5 S5
    have q6 := q5.base (s5.sc (p := a))
    cases b with
    | false => exact ⟨y, m5, h5, st5, So5, ra5, q6⟩
    | true =>
      refine hb a m5 h5 H5 σ4 ρ2 y _ (S4.move s5 S5) pz5 ra5 ?_
      rw [if_pos rfl] at q6
      obtain ⟨y', h6, ee, q7⟩ := q6.calm
      rw [ee]
      exact fun m6 H6 s6 S6 ra6 => ⟨y', m6, h6, st5.trans s6, so_sc So5 s6 S6, ra6, q7.base s6⟩
end
end CM
/-! dict comprehensions with tuple keys, and with two clauses -/
namespace CM
open PySem PySem.Spec PyProof.Rows L2
section
variable {K : PySem.W.Frag} {CA : CAs}
def RK (K : PySem.W.Frag) (CA : CAs) : Addr → List (Key × D) → Mp → CH → Hp → Prop := fun a acc m h H => ∃ kv, H a = some (.dK kv) ∧ kv.map (·.1) = acc.map (·.1) ∧ RpAll K CA m h H (kv.map (·.2)) (acc.map (·.2))
def RT (K : PySem.W.Frag) (CA : CAs) : Addr → List (List Key × D) → Mp → CH → Hp → Prop := fun a acc m h H => ∃ kv, H a = some (.dT kv) ∧ kv.map (·.1) = acc.map (·.1) ∧ RpAll K CA m h H (kv.map (·.2)) (acc.map (·.2))
theorem mv_RK : Moves (RK K CA) := fun a x m h H m' h' H' ⟨kv, e, en, r⟩ s z => ⟨kv, (s.zk a z).trans e, en, r.move s⟩
theorem mv_RT : Moves (RT K CA) := fun a x m h H m' h' H' ⟨kv, e, en, r⟩ s z => ⟨kv, (s.zk a z).trans e, en, r.move s⟩
def bK (tk tv : TD) : List (Key × D) → DE → CH → R (List (Key × D)) := fun acc ρ h => (tk ρ h).calm fun y h => (tv ρ h).calm fun z h => match keyD y with
  | some k => if acc.length < sizeLine then .ok (dPut acc k z) h else .no
  | none => .no
def tbK (hk hv : TE) : Addr → L2.St → Hp → (Hp → Prop) → Prop := fun a σ H Nx => hk σ H fun y H4 => hv σ H4 fun z H5 => ∃ kvs k, y = kV k ∧ H5 a = some (.dK kvs) ∧ kvs.length < sizeLine ∧ Nx (upd H5 a (.dK (putK kvs k z)))
variable {hk hv : TE} {tk tv : TD} {hs : TA} {ts : TDs}
theorem sim_bK (sk : SimE K CA W0 hk tk) (sv : SimE K CA W0 hv tv) : SimB K CA (RK K CA) (tbK hk hv) (bK tk tv) := fun a m h H σ ρ acc Nx S pz ra q => by
  unfold bK at q
  obtain ⟨y, h1, e1, q1⟩ := q.calm
  refine sk m h H σ ρ _ S ?_
  rw [e1]
  intro m1 v1 H1 s1 S1 r1
  obtain ⟨z, h2, e2, q2⟩ := (q1.base (s1.sc (p := a))).calm
  refine sv m1 h1 H1 σ ρ _ (S.move s1 S1) ?_
  rw [e2]
  intro m2 v2 H2 s2 S2 r2
  have q3 := q2.base (s2.sc (p := a))
  have pz1 : a ∈ m1.z := by rw [s1.z]; exact pz
  have pz2 : a ∈ m2.z := by rw [s2.z]; exact pz1
  obtain ⟨kv, ea, en, rr⟩ := mv_RK _ _ _ _ _ _ _ _ (mv_RK _ _ _ _ _ _ _ _ ra s1 pz) s2 pz1
  split at q3
  · rename_i k ek
    by_cases hz : acc.length < sizeLine
    · rw [if_pos hz] at q3
      have ey := rp_key r1 ek
      obtain ⟨en', rr'⟩ := rp_dput (k := k) en rr r2
      have sm := sc_made (u := .dK (putK kv k v2)) S2 pz2
      exact ⟨kv, k, ey, ea, by rw [len_of en]; exact hz, q3 _ _ sm (S2.made pz2) ⟨_, upd_same, en', rr'.mv sm.toMv⟩⟩
    · rw [if_neg hz] at q3
      exact q3.elim
  · exact q3.elim
def bT (ts : TDs) (tv : TD) : List (List Key × D) → DE → CH → R (List (List Key × D)) := fun acc ρ h => (ts ρ h).calm fun ds h => (tv ρ h).calm fun z h => match keysL ds with
  | some ks => if ds.length ≤ sizeLine ∧ acc.length < sizeLine then .ok (dPutT acc ks z) h else .no
  | none => .no
def tbT (hs : TA) (hv : TE) : Addr → L2.St → Hp → (Hp → Prop) → Prop := fun a σ H Nx => L2.tTup hs σ H fun y H4 => hv σ H4 fun z H5 => ∃ kvs k b, y = .ref b ∧ H5 b = some (.tup (k.map kV)) ∧ H5 a = some (.dT kvs) ∧ kvs.length < sizeLine ∧ Nx (upd H5 a (.dT (putK kvs k z)))
theorem lk_tup {vs : List V} {o : HO} (l : Lk (.tup vs) o) : o = .tup vs := by
  rcases l with e | ⟨ob, kvs, e, _⟩ | ⟨ps, qs, e, _⟩
  · exact e
  · rcases e with e | e <;> cases e
  · cases e
theorem sim_bT (sk : SimA K CA W0 hs ts) (sv : SimE K CA W0 hv tv) : SimB K CA (RT K CA) (tbT hs hv) (bT ts tv) := fun a m h H σ ρ acc Nx S pz ra q => by
  unfold bT at q
  obtain ⟨ds, h1, e1, q1⟩ := q.calm
  refine sk m h H σ ρ _ S ?_
  rw [e1]
  intro m1 vs H1 s1 S1 r1
  have q1 := q1.base (s1.sc (p := a))
  have lz : ds.length ≤ sizeLine := by
    obtain ⟨z, h2, _, q2⟩ := q1.calm
    split at q2
    · by_cases c : ds.length ≤ sizeLine ∧ acc.length < sizeLine
      · exact c.1
      · rw [if_neg c] at q2; exact q2.elim
    · exact q2.elim
  refine ⟨by rw [r1.length]; exact lz, fun p n => ?_⟩
  have sL := stp_laid (u := .tup vs) S1 n
  have SL := S1.laid (u := .tup vs) n
  obtain ⟨z, h2, e2, q2⟩ := (q1.base (sL.sc (p := a))).calm
  refine sv m1 h1 _ σ ρ _ ((S.move s1 S1).move sL SL) ?_
  rw [e2]
  intro m2 v2 H2 s2 S2 r2
  have q3 := q2.base (s2.sc (p := a))
  have pz1 : a ∈ m1.z := by rw [s1.z]; exact pz
  have pz2 : a ∈ m2.z := by rw [s2.z]; exact pz1
  obtain ⟨kv, ea, en, rr⟩ := mv_RT _ _ _ _ _ _ _ _ (mv_RT _ _ _ _ _ _ _ _ (mv_RT _ _ _ _ _ _ _ _ ra s1 pz) sL pz1) s2 pz1
  obtain ⟨_, o', e3, lk⟩ := s2.kp p _ (S1.fresh n) upd_same trivial
  have e4 := lk_tup lk
  subst e4
  split at q3
  · rename_i ks ek
    by_cases hz : ds.length ≤ sizeLine ∧ acc.length < sizeLine
    · rw [if_pos hz] at q3
      have evs := rp_keysL r1 ek
      obtain ⟨en', rr'⟩ := rp_dputT (k := ks) en rr r2
      have sm := sc_made (u := .dT (putK kv ks v2)) S2 pz2
      have lx : kv.length = acc.length := by simpa using congrArg List.length en
      exact ⟨kv, ks, p, rfl, by rw [e3, evs], ea, by rw [lx]; exact hz.2, q3 _ _ sm (S2.made pz2) ⟨_, upd_same, en', rr'.mv sm.toMv⟩⟩
    · rw [if_neg hz] at q3
      exact q3.elim
  · exact q3.elim
end
end CM
/-! dict comprehensions as expressions -/
namespace CM
open PySem PySem.Spec PyProof.Rows L2
section
variable {X : Cx} {pins : List (Addr × Obj)} {σ : L2.St} {H : Hp} {s : Shared} {E : Value → Shared → Prop} {a b : Addr} {kvs : List (List Key × V)} {k : List Key} {v : V} {r : Value} {Q : Unit → Shared → Prop}
theorem d_dictSetT (hu : X.A.units + 1 < cLine) (I : Inv X pins σ H s) (e : H a = some (.dT kvs)) (eb : H b = some (.tup (k.map kV))) (l : kvs.length < sizeLine) (rv : RelV v r) (h : ∀ s', Inv X pins σ (upd H a (.dT (putK kvs k v))) s' → Q () s') : wpAny (model X.prog X.w) X.A (dictSet a (.ref b) r) Q E s := by
  obtain ⟨z, hd, xs, rel, dd⟩ := dt_of I.hok e
  have hz : xs.length ≤ sizeLine := by rw [← Paired.length rel]; exact z
  have hl : (putK kvs k v).length ≤ sizeLine := by have := length_putK kvs k v; omega
  refine wpAny_dictSet_heap (hsz := hz) (show (tupleKind (mixKind X.prog X.w)).room X.A from Nat.lt_of_succ_lt hu) (key_of I.hok eb) dd fun h' dd' hs => h _ ?_
  obtain ⟨q, es, ep, hq, h2, h3, h4, _, h5⟩ := dd'
  refine d_write I (by rw [e]; exact True.intro) hs ⟨q, hq⟩ ⟨hl, hd, _, (rel.put k eb rv).keeps fun c ys ec => ?_, q, es, ep, hq, h2, h3, h4, h5⟩
  rw [upd_ne (ne_of ec e (fun z => nomatch z))]
  exact ec
end
section
variable {Y : Cx} {pl : List (Addr × Obj)} {σ2 σb : L2.St} {vs : List Nat} {H : Hp} {s : Shared} {Nx : Hp → Prop} {D : Addr} {kx vx : Expr} {hk hv : TE} {hs : TA} {es : List Expr} {x1 : Nat} {p2 : Pos}
theorem know_of (hw : wipe σ2 vs = wipe σb vs) : ∀ (j : Nat) v, (wipe σb vs)[j]? = some (some v) → σ2[j]? = some (some v) := fun j v e => (wipe_some (vs := vs) (by rw [hw]; exact e)).1
theorem put_K (hx : Y.xe = NoE) (pk : PE Y kx hk) (pv : PE Y vx hv) (I : Inv Y pl σ2 H s) (hw : wipe σ2 vs = wipe σb vs) (q : tbK hk hv D σ2 H Nx) :
    wPut Y.prog Y.w Y.A kx vx D Y.env (fun s' => ∃ σ3 H', Inv Y pl σ3 H' s' ∧ σ3.length = σ2.length ∧ (∀ (j : Nat) v, (wipe σb vs)[j]? = some (some v) → σ3[j]? = some (some v)) ∧ Nx H') s := by
  have h1 := pk.run pl s σ2 H _ I q
  rw [hx] at h1
  refine wpAny_mono h1 (fun kv s1 z => ?_) (fun _ _ z => z)
  obtain ⟨y, H1, I1, r1, q1⟩ := z
  have h2 := pv.run pl s1 σ2 H1 _ I1 q1
  rw [hx] at h2
  refine wpAny_mono h2 (fun vv s2 z => ?_) (fun _ _ z => z)
  obtain ⟨y2, H2, I2, r2, kvs, k, ek, e, hz, nx⟩ := z
  subst ek
  exact d_dictSet I2 e hz r1 r2 fun s3 I3 => ⟨σ2, _, I3, rfl, know_of hw, nx⟩
theorem put_T (hu : Y.A.units + 1 < cLine) (hx : Y.xe = NoE) (pk : PA Y es hs) (pv : PE Y vx hv) (I : Inv Y pl σ2 H s) (hw : wipe σ2 vs = wipe σb vs) (q : tbT hs hv D σ2 H Nx) :
    wPut Y.prog Y.w Y.A (.Tuple es x1 p2) vx D Y.env (fun s' => ∃ σ3 H', Inv Y pl σ3 H' s' ∧ σ3.length = σ2.length ∧ (∀ (j : Nat) v, (wipe σb vs)[j]? = some (some v) → σ3[j]? = some (some v)) ∧ Nx H') s := by
  have h1 := (pe_tup (x1 := x1) (pos := p2) pk).run pl s σ2 H _ I q
  rw [hx] at h1
  refine wpAny_mono h1 (fun kv s1 z => ?_) (fun _ _ z => z)
  obtain ⟨y, H1, I1, r1, q1⟩ := z
  have h2 := pv.run pl s1 σ2 H1 _ I1 q1
  rw [hx] at h2
  refine wpAny_mono h2 (fun vv s2 z => ?_) (fun _ _ z => z)
  obtain ⟨y2, H2, I2, r2, kvs, k, b, ek, eb, e, hz, nx⟩ := z
  subst ek
  obtain rfl : kv = Value.ref b := r1
  exact d_dictSetT hu I2 e eb hz r2 fun s3 I3 => ⟨σ2, _, I3, rfl, know_of hw, nx⟩
theorem wPut_mono {P : Program} {w : World} {A : Around} {env : Env} (P1 P2 : Shared → Prop) (s : Shared) (h : ∀ s', P1 s' → P2 s') (x : wPut P w A kx vx D env P1 s) : wPut P w A kx vx D env P2 s :=
  wpAny_mono x (fun _ _ z => wpAny_mono z (fun _ _ z => wpAny_mono z (fun _ _ z => h _ z) fun _ _ z => z) fun _ _ z => z) fun _ _ z => z
theorem wOut_mono {P : Program} {w : World} {A : Around} {E iter : Expr} {env : Env} (P1 P2 : Shared → Prop) (s : Shared) (h : ∀ s', P1 s' → P2 s') (x : wOut P w A E iter D env P1 s) : wOut P w A E iter D env P2 s :=
  wpAny_mono x (fun _ _ z => wpAny_mono z (fun _ _ z => codeAny_mono z fun r s' q => by
    cases r with
    | ok f => exact h _ q
    | error e => exact q) fun _ _ z => z) fun _ _ z => z
end
end CM
/-! dict comprehensions: the second clause; the expressions' rules -/
namespace CM
open PySem PySem.Spec PyProof.Rows L2
/-- the wish of a second clause -/
def tb2 (wi : TI) (g : TG) (tt : TT) (hk hv : TE) (vs1 : List Nat) : Addr → L2.St → Hp → (Hp → Prop) → Prop := fun a σ H Nx => wi σ H fun J H4 => ∃ W : Nat → Nat → Hp → Prop, (∃ m, W 0 m H4) ∧ ∀ j k H, W j k H →
  (J.stop j H ∧ Nx H) ∨ (J.go j H ∧ ∃ Nx1 : Hp → Prop, (∀ H', Nx1 H' → ∃ k', k' < k ∧ W (j + 1) k' H') ∧ ∀ x H', J.yld j H x H' → g x (wipe σ vs1) H' fun σ3 H5 => wipe σ3 vs1 = wipe σ vs1 ∧ tt σ3 H5 fun b H6 => if b = true then tbK hk hv a σ3 H6 Nx1 else Nx1 H6)
section
variable {Y : Cx} {pl : List (Addr × Obj)} {σ2 σb : L2.St} {vs vs1 : List Nat} {H : Hp} {s : Shared} {Nx : Hp → Prop} {D : Addr} {kx vx t0 i0 tg iter : Expr} {ifs0 ifs : List Expr} {scope : Scope} {pos : Pos} {hk hv : TE} {wi : TI} {g : TG} {tt : TT}
theorem out_K (hc : Y.calm = true) (hx : Y.xe = NoE) (hi : PI Y tg iter wi) (pg : PG Y tg g) (pt : PTs Y ifs tt) (pk : PE Y kx hk) (pv : PE Y vx hv) (hv1 : ∀ i ∈ vs1, i ∈ vs) (I : Inv Y pl σ2 H s) (hw : wipe σ2 vs = wipe σb vs) (q : tb2 wi g tt hk hv vs1 D σ2 H Nx) :
    wOut Y.prog Y.w Y.A (.DictComp kx vx [⟨t0, i0, ifs0, 0⟩, ⟨tg, iter, ifs, 0⟩] scope pos) iter D Y.env (fun s' => ∃ σ3 H', Inv Y pl σ3 H' s' ∧ σ3.length = σ2.length ∧ (∀ (j : Nat) v, (wipe σb vs)[j]? = some (some v) → σ3[j]? = some (some v)) ∧ Nx H') s := by
  have h1 := hi.run pl s σ2 H _ I q
  rw [hx] at h1
  refine wpAny_mono h1 (fun xv s1 z => wpAny_mono z (fun itv s2 pe => ?_) fun _ _ z => z) (fun _ _ z => z)
  obtain ⟨ia, fp, tn, J, H1, rfl, I1, T, st, f, W, ⟨m, w0⟩, turn⟩ := pe
  have kn : ∀ (j : Nat) v, (wipe σb vs)[j]? = some (some v) → (wipe σ2 vs1)[j]? = some (some v) := fun j v e => by
    rw [← hw] at e
    obtain ⟨e1, e2⟩ := wipe_some e
    rw [wipe_out fun z => e2 (hv1 j z)]
    exact e1
  have loop : codeAny (model Y.prog Y.w) Y.A (.compLoop (.DictComp kx vx [⟨t0, i0, ifs0, 0⟩, ⟨tg, iter, ifs, 0⟩] scope pos) 1 (.ref ia) (.ref D) Y.env) (fun r s' => match r with
      | .ok _ => ∃ σ3 H', Inv Y pl σ3 H' s' ∧ σ3.length = σ2.length ∧ (∀ (j : Nat) v, (wipe σb vs)[j]? = some (some v) → σ3[j]? = some (some v)) ∧ Nx H'
      | .error _ => False) s2 :=
    b_loop (Y := Y) (pins := pl) (σb := σ2) (vs := vs1) (Done := Nx) hc hx T turn_in bk_put wPut_mono pg pt (fun pl s σ3 H Nx I hw q => put_K hx pk pv I hw q) (fun {σ' H' s'} I' hn b hb => ⟨hn b hb, (f b hb).2⟩) turn
      (fun s' H' I' nx => ⟨_, H', I', wipe_length _ _, kn, nx⟩) (I1.weak (wipe_length _ _) fun j v e => (wipe_some e).1) st (fun b hb => (f b hb).1) w0
  exact c_start1 loop (T.self Y.A 0 _ _ _ st loop)
end
theorem calm_ex {α β : Type} {r : R α} {k : α → CH → R β} {c : Nat} {fs : List (Str × D)} {h : CH} (e : r.calm k = .ex c fs h) : ∃ b h', r = .ok b h' ∧ k b h' = .ex c fs h := by
  cases r with
  | ok b h' => exact ⟨b, h', rfl, e⟩
  | ex => cases e
  | no => cases e
theorem dGL_noex {α : Type} {tg : TGD} {tt : TB} {body : α → DE → CH → R α} {ρ0 : DE} {c : Nat} {fs : List (Str × D)} {h' : CH} : ∀ {ds : List D} {x : α} {h : CH}, dGL tg tt body ρ0 x ds h ≠ .ex c fs h'
  | [], x, h => fun z => nomatch z
  | d :: r, x, h => fun z => by
    unfold dGL at z
    obtain ⟨ρ2, h2, _, z⟩ := calm_ex z
    obtain ⟨b, h3, _, z⟩ := calm_ex z
    cases b with
    | true =>
      rw [if_pos rfl] at z
      obtain ⟨y, h4, _, z⟩ := calm_ex z
      exact dGL_noex z
    | false =>
      rw [if_neg Bool.false_ne_true] at z
      exact dGL_noex z
def b2 (ti : TDw) (tg : TGD) (tt : TB) (tk tv : TD) (vs1 : List Nat) : List (Key × D) → DE → CH → R (List (Key × D)) := fun acc ρ h => (ti ρ h).calm fun w h => match w.2 with
  | none => dGL tg tt (bK tk tv) (wipeD ρ vs1) acc w.1 h
  | some _ => .no
section
variable {X : Cx} {K : PySem.W.Frag} {CA : CAs} {W : WX} {H0 : Hp}
theorem sim_b2 {ti : TDw} {tg : TGD} {tt : TB} {tk tv : TD} {vs1 sl : List Nat} {wi : TI} {g : TG} {hT : TT} {hk hv : TE} (hi : SimI K CA W0 H0 wi ti) (hg : SimG K CA sl g tg) (ht : SimT K CA W0 hT tt) (sk : SimE K CA W0 hk tk) (sv : SimE K CA W0 hv tv) (ho : ∀ j, j ∈ sl → j ∈ vs1) :
    SimB K CA (RK K CA) (tb2 wi g hT hk hv vs1) (b2 ti tg tt tk tv vs1) := fun a m h H σ ρ acc Nx S pz ra q => by
  unfold b2 at q
  obtain ⟨w, h1, e1, q1⟩ := q.calm
  refine hi m h H σ ρ _ S ?_
  rw [e1]
  intro m1 J H1 s1 S1 wk uo
  split at q1
  · have q2 := q1.base (s1.sc (p := a))
    exact loop_sim hg ht (sim_bK sk sv) mv_RK ho wk Stp.refl.toSz (S.move s1 S1) (by rw [s1.z]; exact pz) (mv_RK _ _ _ _ _ _ _ _ ra s1 pz) q2
  · exact q1.elim
/-- a comprehension's account, made an object -/
theorem sim_dcG {α : Type} {RA : Addr → α → Mp → CH → Hp → Prop} {tb : Addr → L2.St → Hp → (Hp → Prop) → Prop} {body : α → DE → CH → R α} {u0 : HO} {x0 : α} {mk : α → CH → R D} {gH : TG} {tg : TGD} {hT : TT} {tt : TB} {wH : TI} {ti : TDw} {vs sl : List Nat} (hi : SimI K CA W X.H_0 wH ti) (hg : SimG K CA sl gH tg) (ht : SimT K CA W0 hT tt)
    (hb : SimB K CA RA tb body) (mv : Moves RA) (ho : ∀ j, j ∈ sl → j ∈ vs) (nt : NTab u0) (r0 : ∀ (m : Mp) (h : CH) (H : Hp) (a : Addr), RA a x0 (m.add a) h (upd H a u0))
    (dn : ∀ {mb : Mp} {hb : CH} {Hb : Hp} {m1 : Mp} {h1 : CH} {H1 : Hp} {m2 : Mp} {h2 : CH} {H2 : Hp} {p : Addr} {un : Unl} {σ : L2.St} {Q1 : VK} {y : α}, Stp mb hb Hb m1 h1 H1 → HR K CA m1 h1 H1 → H1 p = none → Sc p (m1.add p) h1 (upd H1 p u0) m2 h2 H2 → HR K CA m2 h2 H2 → RA p y m2 h2 H2 → UnlOk K CA X.H_0 mb hb Hb m1 h1 H1 un →
      PostE K CA W mb hb Hb σ Q1 ((mk y h2).unl un) → UnlP X (Q1 (.ref p)) H2) :
    SimE K CA W (fun σ H Q => tDcG u0 wH gH hT tb vs σ H fun v => UnlP X (Q v)) (fun ρ h => (ti ρ h).bind fun w h => ((dGL tg tt body (wipeD ρ vs) x0 w.1 h).bind fun y h => mk y h).unl w.2) := by
  intro m h H σ ρ Q' S t
  refine hi m h H σ ρ _ S (PostI.bindE t fun w h1 m1 J H1 s1 S1 wk uo t1 => ?_)
  intro a n
  have S2 := S1.add (u := u0) n nt
  have So : SO K CA (m1.add a) h1 (upd H1 a u0) σ ρ := ⟨S2, S.len, fun i d e => let ⟨v, e1, q⟩ := (S.move s1 S1).sl i d e; ⟨v, e1, q.add n⟩⟩
  refine loop_sim hg ht hb mv ho wk (sz_add (u := u0) S1 n) So (List.mem_cons_self ..) (r0 _ _ _ _) ?_
  cases er : dGL tg tt body (wipeD ρ vs) x0 w.1 h1 with
  | ex c fs h2 => exact absurd er dGL_noex
  | no => rw [er] at t1; exact t1.elim
  | ok y h2 =>
    rw [er] at t1
    exact fun m2 H2 st S3 ra => dn s1 S1 n st S3 ra uo t1
end
end CM
/-! {(e, ..): v for ..}; {k: v for .. for ..} -/
namespace CM
open PySem PySem.Spec PyProof.Rows L2
def mkT (y : List (List Key × D)) (h : CH) : R D := .ok (.ref h.nx) (h.new (.dctT y))
def dDcT (ti : TDw) (tg : TGD) (tt : TB) (ts : TDs) (tv : TD) (vs : List Nat) : TD := fun ρ h => (ti ρ h).bind fun w h => ((dGL tg tt (bT ts tv) (wipeD ρ vs) [] w.1 h).bind fun y h => mkT y h).unl w.2
def dDc2 (nm : Bool) (ti : TDw) (tg : TGD) (tt : TB) (ti1 : TDw) (tg1 : TGD) (tt1 : TB) (tk tv : TD) (vs vs1 : List Nat) : TD := fun ρ h => (ti ρ h).bind fun w h => ((dGL tg tt (b2 ti1 tg1 tt1 tk tv vs1) (wipeD ρ vs) [] w.1 h).bind fun y h => mkD nm y h).unl w.2
section
variable {X : Cx} {K : PySem.W.Frag} {CA : CAs} {W : WX} {mb : Mp} {hb : CH} {Hb : Hp} {m1 : Mp} {h1 : CH} {H1 : Hp} {m2 : Mp} {h2 : CH} {H2 : Hp} {p : Addr} {un : Unl} {σ : L2.St}
theorem doneT {ds : List (List Key × D)} {Q1 : VK} {u : HO} (sb : Stp mb hb Hb m1 h1 H1) (S : HR K CA m1 h1 H1) (n : H1 p = none) (s : Sc p (m1.add p) h1 (upd H1 p u) m2 h2 H2) (S2 : HR K CA m2 h2 H2) (ra : RT K CA p ds m2 h2 H2) (uo : UnlOk K CA X.H_0 mb hb Hb m1 h1 H1 un) (t : PostE K CA W mb hb Hb σ Q1 ((mkT ds h2).unl un)) : UnlP X (Q1 (.ref p)) H2 := by
  obtain ⟨kv, e, en, r⟩ := ra
  have z2 : m2.z = p :: m1.z := s.z
  obtain ⟨s3, S3⟩ := done_named (o := .dctT ds) S n s S2 (.dctT e en (r.named S2 z2))
  refine unl_at sb uo s3 S3 fun H3 s4 S4 k => t _ _ H3 s4 S4 (k _ _ ?_)
  have q := Rp.ref (K := K) (CA := CA) (m := mpNew ⟨m2.f, m1.z⟩ h2 p) (h := h2.new (.dctT ds)) (H := H2) (k := h2.nx) (Nat.lt_succ_self _)
  rw [show (mpNew ⟨m2.f, m1.z⟩ h2 p) h2.nx = p from mpNew_nx] at q
  exact q
end
section
variable {X : Cx} {K : PySem.W.Frag} {CA : CAs} {W : WX} {kx vx tge iter tg1e iter1 : Expr} {ifs ifs1 : List Expr} {es : List Expr} {x1 : Nat} {pos p2 : Pos} {gH g1H : TG} {tg tg1 : TGD} {hT h1T : TT} {tt tt1 : TB} {hk hv : TE} {tk tv : TD} {hs_ : TA} {ts : TDs} {wH w1H : TI} {ti ti1 : TDw}
/-- {(e, ..): v for ..} -/
theorem we_dcT (hu : X.A.units + 1 < cLine) {scope : Scope} {own : List (Str × Nat)} {sl : List Nat} (hc : X.calm = true) (hN : X.N.Nodup) (hi : WI X K CA W tge iter wH ti) (ok : BlkOk X.N X.env.scope scope own)
    (hg : ∀ (s : Shared) (H : Hp) (C : Addr) (cl : List (Str × Addr)) (fp : List Addr), WG (X.blk s H scope (compEnvC scope cl C X.env) fp) K CA tge sl gH tg)
    (ht : ∀ (s : Shared) (H : Hp) (C : Addr) (cl : List (Str × Addr)) (fp : List Addr), WTs (X.blk s H scope (compEnvC scope cl C X.env) fp) K CA W0 ifs hT tt)
    (hek : ∀ (s : Shared) (H : Hp) (C : Addr) (cl : List (Str × Addr)) (fp : List Addr), WA (X.blk s H scope (compEnvC scope cl C X.env) fp) K CA W0 es hs_ ts)
    (hev : ∀ (s : Shared) (H : Hp) (C : Addr) (cl : List (Str × Addr)) (fp : List Addr), WE (X.blk s H scope (compEnvC scope cl C X.env) fp) K CA W0 vx hv tv)
    (ho : ∀ j, j ∈ sl → j ∈ own.map (·.2)) (hs : ∀ x, foldedSetIterable iter X.env x = pure x := by intro _; rfl) :
    WE X K CA W (.DictComp (.Tuple es x1 p2) vx [⟨tge, iter, ifs, 0⟩] scope pos) (fun σ H Q => tDcG (.dT []) wH gH hT (tbT hs_ hv) (own.map (·.2)) σ H fun v => UnlP X (Q v)) (dDcT ti tg tt ts tv (own.map (·.2))) :=
  ⟨pe_unl (pe_dcG (bk := fun D env k => putB (.Tuple es x1 p2) vx D env >>= fun _ => k) (Wsh := fun D env => wPut X.prog X.w X.A (.Tuple es x1 p2) vx D env) hc hN hi.pe ok (fun D it env => turn_one) (fun D env => bk_put) (fun D env => wPut_mono)
      (fun s H C cl fp => (hg s H C cl fp).pe) (fun s H C cl fp => (ht s H C cl fp).pe) (fun s0 H0 C cl fp D pl s σb σ2 H Nx I hw q => put_T (Y := X.blk s0 H0 scope (compEnvC scope cl C X.env) fp) hu rfl (hek s0 H0 C cl fp).pe (hev s0 H0 C cl fp).pe I hw q) (fun H h b => dt_empty h b) hs),
    sim_dcG (mk := mkT) hi.sim (hg X.s_0 X.H_0 0 [] []).sim (ht X.s_0 X.H_0 0 [] []).sim (sim_bT (hek X.s_0 X.H_0 0 [] []).sim (hev X.s_0 X.H_0 0 [] []).sim) mv_RT ho trivial (fun m h H a => ⟨[], upd_same, rfl, .nil⟩) fun sb S n s S2 ra uo t => doneT sb S n s S2 ra uo t⟩
/-- name = {(e, ..): v for ..} -/
theorem ws_setDcT (hu : X.A.units + 1 < cLine) {i : Nat} {y : Str} {py spos : Pos} {scope : Scope} {own : List (Str × Nat)} {sl : List Nat} (hc : X.calm = true) (hN : X.N.Nodup) (hy : X.N[i]? = some y) (hyl : X.env.scope.names.lookup y = some .local) (hi : WI X K CA W tge iter wH ti) (ok : BlkOk X.N X.env.scope scope own)
    (hg : ∀ (s : Shared) (H : Hp) (C : Addr) (cl : List (Str × Addr)) (fp : List Addr), WG (X.blk s H scope (compEnvC scope cl C X.env) fp) K CA tge sl gH tg)
    (ht : ∀ (s : Shared) (H : Hp) (C : Addr) (cl : List (Str × Addr)) (fp : List Addr), WTs (X.blk s H scope (compEnvC scope cl C X.env) fp) K CA W0 ifs hT tt)
    (hek : ∀ (s : Shared) (H : Hp) (C : Addr) (cl : List (Str × Addr)) (fp : List Addr), WA (X.blk s H scope (compEnvC scope cl C X.env) fp) K CA W0 es hs_ ts)
    (hev : ∀ (s : Shared) (H : Hp) (C : Addr) (cl : List (Str × Addr)) (fp : List Addr), WE (X.blk s H scope (compEnvC scope cl C X.env) fp) K CA W0 vx hv tv)
    (ho : ∀ j, j ∈ sl → j ∈ own.map (·.2)) (hsw : swapsWith (.DictComp (.Tuple es x1 p2) vx [⟨tge, iter, ifs, 0⟩] scope pos) (some (.Name y py)) spos.line X.env = pure true := by rfl) (hs : ∀ x, foldedSetIterable iter X.env x = pure x := by intro _; rfl) :
    WS X K CA W (.Assign [.Name y py] (.DictComp (.Tuple es x1 p2) vx [⟨tge, iter, ifs, 0⟩] scope pos) spos) (fun D σ H => tAsg (tDcG (.dT []) wH gH hT (tbT hs_ hv) (own.map (·.2))) (gName i) (unlE X D) σ H) (dAsg (dDcT ti tg tt ts tv (own.map (·.2))) (gdName i)) :=
  ⟨ps_unl (ps_setDcG (bk := fun D env k => putB (.Tuple es x1 p2) vx D env >>= fun _ => k) (Wsh := fun D env => wPut X.prog X.w X.A (.Tuple es x1 p2) vx D env) hy hyl hsw hc hN hi.pe ok (fun D it env => turn_one) (fun D env => bk_put) (fun D env => wPut_mono)
      (fun s H C cl fp => (hg s H C cl fp).pe) (fun s H C cl fp => (ht s H C cl fp).pe) (fun s0 H0 C cl fp D pl s σb σ2 H Nx I hw q => put_T (Y := X.blk s0 H0 scope (compEnvC scope cl C X.env) fp) hu rfl (hek s0 H0 C cl fp).pe (hev s0 H0 C cl fp).pe I hw q) (fun H h b => dt_empty h b) hs),
    sim_asg (sim_dcG (X := X) (u0 := .dT []) (x0 := ([] : List (List Key × D))) (RA := RT K CA) (mk := mkT) hi.sim (hg X.s_0 X.H_0 0 [] []).sim (ht X.s_0 X.H_0 0 [] []).sim (sim_bT (hek X.s_0 X.H_0 0 [] []).sim (hev X.s_0 X.H_0 0 [] []).sim) mv_RT ho trivial (fun m h H a => ⟨[], upd_same, rfl, .nil⟩) fun sb S n s S2 ra uo t => doneT sb S n s S2 ra uo t) sim_gName⟩
/-- {k: v for .. for ..} -/
theorem we_dc2 (nm : Bool) {scope : Scope} {own : List (Str × Nat)} {sl sl1 vs1 : List Nat} (hc : X.calm = true) (hN : X.N.Nodup) (hi : WI X K CA W tge iter wH ti) (ok : BlkOk X.N X.env.scope scope own)
    (hg : ∀ (s : Shared) (H : Hp) (C : Addr) (cl : List (Str × Addr)) (fp : List Addr), WG (X.blk s H scope (compEnvC scope cl C X.env) fp) K CA tge sl gH tg)
    (ht : ∀ (s : Shared) (H : Hp) (C : Addr) (cl : List (Str × Addr)) (fp : List Addr), WTs (X.blk s H scope (compEnvC scope cl C X.env) fp) K CA W0 ifs hT tt)
    (hi1 : ∀ (s : Shared) (H : Hp) (C : Addr) (cl : List (Str × Addr)) (fp : List Addr), WI (X.blk s H scope (compEnvC scope cl C X.env) fp) K CA W0 tg1e iter1 w1H ti1)
    (hg1 : ∀ (s : Shared) (H : Hp) (C : Addr) (cl : List (Str × Addr)) (fp : List Addr), WG (X.blk s H scope (compEnvC scope cl C X.env) fp) K CA tg1e sl1 g1H tg1)
    (ht1 : ∀ (s : Shared) (H : Hp) (C : Addr) (cl : List (Str × Addr)) (fp : List Addr), WTs (X.blk s H scope (compEnvC scope cl C X.env) fp) K CA W0 ifs1 h1T tt1)
    (hek : ∀ (s : Shared) (H : Hp) (C : Addr) (cl : List (Str × Addr)) (fp : List Addr), WE (X.blk s H scope (compEnvC scope cl C X.env) fp) K CA W0 kx hk tk)
    (hev : ∀ (s : Shared) (H : Hp) (C : Addr) (cl : List (Str × Addr)) (fp : List Addr), WE (X.blk s H scope (compEnvC scope cl C X.env) fp) K CA W0 vx hv tv)
    (ho : ∀ j, j ∈ sl → j ∈ own.map (·.2)) (ho1 : ∀ j, j ∈ sl1 → j ∈ vs1) (hv1 : ∀ i ∈ vs1, i ∈ own.map (·.2)) (hs : ∀ x, foldedSetIterable iter X.env x = pure x := by intro _; rfl) (hs1 : ∀ env x, foldedSetIterable iter1 env x = pure x := by intro _ _; rfl) :
    WE X K CA W (.DictComp kx vx [⟨tge, iter, ifs, 0⟩, ⟨tg1e, iter1, ifs1, 0⟩] scope pos) (fun σ H Q => tDcG (.dK []) wH gH hT (tb2 w1H g1H h1T hk hv vs1) (own.map (·.2)) σ H fun v => UnlP X (Q v)) (dDc2 nm ti tg tt ti1 tg1 tt1 tk tv (own.map (·.2)) vs1) :=
  ⟨pe_unl (pe_dcG (Wsh := fun D env => wOut X.prog X.w X.A (.DictComp kx vx [⟨tge, iter, ifs, 0⟩, ⟨tg1e, iter1, ifs1, 0⟩] scope pos) iter1 D env) hc hN hi.pe ok (fun D it env => turn_out) (fun D env => bk_out (hs1 env)) (fun D env => wOut_mono)
      (fun s H C cl fp => (hg s H C cl fp).pe) (fun s H C cl fp => (ht s H C cl fp).pe) (fun s0 H0 C cl fp D pl s σb σ2 H Nx I hw q => out_K (Y := X.blk s0 H0 scope (compEnvC scope cl C X.env) fp) hc rfl (hi1 s0 H0 C cl fp).pe (hg1 s0 H0 C cl fp).pe (ht1 s0 H0 C cl fp).pe (hek s0 H0 C cl fp).pe (hev s0 H0 C cl fp).pe hv1 I hw q) (fun H h b => dk_empty h b) hs),
    sim_dcG (mk := fun y h => mkD nm y h) hi.sim (hg X.s_0 X.H_0 0 [] []).sim (ht X.s_0 X.H_0 0 [] []).sim (sim_b2 (hi1 X.s_0 X.H_0 0 [] []).sim (hg1 X.s_0 X.H_0 0 [] []).sim (ht1 X.s_0 X.H_0 0 [] []).sim (hek X.s_0 X.H_0 0 [] []).sim (hev X.s_0 X.H_0 0 [] []).sim ho1) mv_RK ho trivial (fun m h H a => ⟨[], upd_same, rfl, .nil⟩)
      fun sb S n s S2 ra uo t => let ⟨kv, e, en, r⟩ := ra; doneD sb S n s S2 e en r uo t⟩
end
end CM
/-! list(a dict); min(a list of ints) -/
namespace CM
open PySem PySem.Spec PyProof.Rows L2
def rListK : List V → Hp → VK → Prop := fun xs H Q => ∃ p kvs, xs = [V.ref p] ∧ Rd H p (.dK kvs) ∧ ∀ q, H q = none → Q (.ref q) (upd H q (.lst (kvs.map fun kv => kV kv.1)))
theorem call_listK {X : Cx} (hc : X.calm = true := by rfl) : CallR X (.type "list") rListK := by
  intro pins s σ H xs us Q I r h
  obtain ⟨p, kvs, rfl, rd, q⟩ := h
  obtain ⟨u, rfl, rx⟩ := vals1 r
  obtain rfl : u = Value.ref p := rx
  obtain ⟨z, lo, vs, rel, dof⟩ := dk_rd I.hok rd
  obtain ⟨ep, dat⟩ := dof.dictAt
  have hl : kvs.length = vs.length := Paired.length rel
  refine PySem.W.kdl_call (PySem.W.kdl_dict (knd := mixKind X.prog X.w) (kvs := vs) (ep := ep) lo) (I.ok.hd hc) dat (by rw [← hl]; exact z) fun h' tk acc c' hk hS hacc => ?_
  refine ⟨.ref _, upd H _ (.lst (kvs.map fun kv => kV kv.1)), I.laid hk (Nat.le_refl _) (show ObjOk X.prog X.w _ _ _ (.lst (kvs.map fun kv => kV kv.1)) from ⟨by rw [List.length_map]; exact z, acc.toList, c', ?_, by rw [Array.toArray_toList]; exact hS⟩), rfl, q _ (I.hok.fresh (Nat.le_refl _))⟩
  have el : acc.toList.length = acc.size := by simp
  refine vals_of_at (by rw [List.length_map, el, hacc.1, hl]) fun j x w h1 h2 => ?_
  obtain ⟨k, y, hky, hi⟩ := hacc.2 j w (by rw [← Array.getElem?_toList]; exact h2)
  have e1 : (kvs.map (·.1))[j]? = some k := by
    rw [KV.keys rel, List.getElem?_map, hky] <;> rfl
  have e2 : (kvs.map fun kv => kV kv.1)[j]? = some (kV k) := by
    rw [show (kvs.map fun kv => kV kv.1) = (kvs.map (·.1)).map kV by rw [List.map_map] <;> rfl, List.getElem?_map, e1] <;> rfl
  rw [e2] at h1
  cases h1
  exact keyIs_rel hi
def fListK (nm : Bool) : FD := fun ds h => match ds with
  | [d] => match dctOf h d with
    | some kvs => mkL nm (kvs.map fun kv => kD kv.1) h
    | none => .no
  | _ => .no
def minL : List Int → Int
  | [] => 0
  | [i] => i
  | i :: r => if minL r < i then minL r else i
section
variable {K : PySem.W.Frag} {CA : CAs}
theorem rp_keysA {m : Mp} {h : CH} {H : Hp} : ∀ {hk : List (Key × V)} {kvs : List (Key × D)}, hk.map (·.1) = kvs.map (·.1) → RpAll K CA m h H (hk.map fun kv => kV kv.1) (kvs.map fun kv => kD kv.1)
  | [], [], _ => .nil
  | [], _ :: _, e => by simp at e
  | _ :: _, [], e => by simp at e
  | p :: hk, q :: kvs, e => by
    simp only [List.map_cons, List.cons.injEq] at e
    obtain ⟨pk, pv⟩ := p
    obtain ⟨qk, qv⟩ := q
    obtain ⟨e1, e2⟩ := e
    cases e1
    refine .cons ?_ (rp_keysA e2)
    cases pk with
    | inl i => exact .int i
    | inr x => exact .str x
theorem sim_listK {nm : Bool} : SimC K CA rListK (fListK nm) := by
  intro W σ m h H xs ds Q' S r t
  unfold fListK at t
  split at t
  · split at t
    · rename_i kvs ek
      cases r with
      | cons r1 r2 =>
        cases r2
        obtain ⟨a, o, hk, rfl, e1, c, en, rr⟩ := rp_dct S r1 ek
        have rd : Rd H a (.dK hk) := by
          rcases core_dK c with rfl | ⟨ob, rfl⟩
          · exact .inl e1
          · exact .inr ⟨ob, e1⟩
        exact ⟨a, hk, rfl, rd, fun p n => mkL_post S n (rp_keysA en) t⟩
    · exact t.elim
  · exact t.elim
theorem minL_mem : ∀ {is : List Int}, is ≠ [] → minL is ∈ is ∧ ∀ j ∈ is, minL is ≤ j
  | [], h => absurd rfl h
  | [i], _ => ⟨List.mem_cons_self .., fun j hj => by rw [List.mem_singleton.mp hj]; exact Int.le_refl _⟩
  | i :: k :: r, _ => by
    obtain ⟨h1, h2⟩ := minL_mem (is := k :: r) (by simp)
    unfold minL
    by_cases c : minL (k :: r) < i
    · rw [if_pos c]
      exact ⟨List.mem_cons_of_mem _ h1, fun j hj => (List.mem_cons.mp hj).elim (fun e => by rw [e]; omega) fun q => h2 j q⟩
    · rw [if_neg c]
      exact ⟨List.mem_cons_self .., fun j hj => (List.mem_cons.mp hj).elim (fun e => by rw [e]; omega) fun q => by have := h2 j q; omega⟩
def fMinL : FD := fun ds h => match ds with
  | [d] => match lstOf h d with
    | some xs => match intsOf xs with
      | some is => if 0 < is.length then .ok (.int (minL is)) h else .no
      | none => .no
    | none => .no
  | _ => .no
theorem call_minL {X : Cx} (hc : X.calm = true := by rfl) (hK : X.K = K := by rfl) : CallR X (.builtin "min") (L2.rMin K) := by subst hK; exact cr_min hc
theorem sim_minL : SimC K CA (L2.rMin K) fMinL := by
  intro W σ m h H xs ds Q' S r t
  unfold fMinL at t
  split at t
  · split at t
    · rename_i ys e
      split at t
      · rename_i is ei
        obtain ⟨l, t⟩ := post_ite t
        cases r with
        | cons r1 r2 =>
          cases r2
          obtain ⟨a, zs, rfl, e1, rr⟩ := rp_lst S r1 e
          obtain ⟨q1, q2⟩ := rp_ints rr ei
          subst q1
          have ne : is ≠ [] := List.length_pos_iff.mp l
          obtain ⟨a1, a2⟩ := minL_mem ne
          refine ⟨a, is, rfl, .of e1, l, fun m' h1 h2 => ?_⟩
          have em : m' = minL is := by
            have := h2 _ a1
            have := a2 _ h1
            omega
          rw [em]
          exact t.here S (.int _)
      · exact t.elim
    · exact t.elim
  · exact t.elim
end
end CM
/-! is, is not of bools -/
namespace CM
open PySem PySem.Spec PyProof.Rows L2
def fIsB (neg : Bool) : F2 := fun x y h => match x, y with
  | .bl a, .bl b => .ok (.bl (bneg neg (decide (a = b)))) h
  | _, _ => .no
section
variable {K : PySem.W.Frag} {CA : CAs}
theorem sim_isB : SimR K CA rIsB (fIsB false) := by
  intro W σ m h H x y dx dy Q' S rx ry t
  unfold fIsB at t
  split at t
  · cases rx
    cases ry
    exact ⟨_, _, rfl, rfl, t.here S (.bl _)⟩
  · exact t.elim
theorem sim_notB : SimR K CA rNotB (fIsB true) := by
  intro W σ m h H x y dx dy Q' S rx ry t
  unfold fIsB at t
  split at t
  · cases rx
    cases ry
    exact ⟨_, _, rfl, rfl, t.here S (.bl _)⟩
  · exact t.elim
end
end CM
namespace CM
open PySem PySem.Spec PyProof.Rows L2

/-! ### evaluation of readings -/
section
variable {α β : Type} {a : α} {h : CH} {c : Nat} {fs : List (Str × D)} {f : α → CH → R β} {g : α → CH → RS} {ρ : DE} {w : SD} {d : D}
@[simp] theorem bind_ok : (R.ok a h).bind f = f a h := rfl
@[simp] theorem bind_ex : (R.ex c fs h : R α).bind f = .ex c fs h := rfl
@[simp] theorem bind_no : (R.no : R α).bind f = .no := rfl
@[simp] theorem calm_ok : (R.ok a h).calm f = f a h := rfl
@[simp] theorem calm_no : (R.no : R α).calm f = .no := rfl
@[simp] theorem toS_ok : (R.ok a h).toS ρ g = g a h := rfl
@[simp] theorem toS_ex : (R.ex c fs h : R α).toS ρ g = .ex ρ c fs h := rfl
@[simp] theorem toS_no : (R.no : R α).toS ρ g = .no := rfl
@[simp] theorem sbind_nx : (RS.nx ρ h).bind w = w ρ h := rfl
@[simp] theorem sbind_rt : (RS.rt d h).bind w = .rt d h := rfl
@[simp] theorem sbind_bk : (RS.bk ρ h).bind w = .bk ρ h := rfl
@[simp] theorem sbind_ct : (RS.ct ρ h).bind w = .ct ρ h := rfl
@[simp] theorem sbind_ex : (RS.ex ρ c fs h).bind w = .ex ρ c fs h := rfl
@[simp] theorem sbind_no : (RS.no).bind w = .no := rfl
@[simp] theorem res_nx : (RS.nx ρ h).res = .ok .non h := rfl
@[simp] theorem res_rt : (RS.rt d h).res = .ok d h := rfl
@[simp] theorem res_ex : (RS.ex ρ c fs h).res = .ex c fs h := rfl
@[simp] theorem put_ok {ρ : DE} {k : SD} : (R.ok ρ h).put k = k ρ h := rfl
@[simp] theorem unl_nx : (RS.nx ρ h).unl none = .nx ρ h := rfl
@[simp] theorem unl_none {r : RS} : r.unl none = r := by cases r <;> rfl
@[simp] theorem runl_none {r : R α} : r.unl none = r := by cases r <;> rfl
end
section
variable {ta tb tc : TD} {ts : TDs} {t u : TB} {ρ : DE} {h : CH} {d : D} {f : F2} {f1 : F1} {F : FD} {FMm : FM} {n i : Nat} {nm : Bool} {T : String}
@[simp] theorem e_C : dC d ρ h = .ok d h := rfl
@[simp] theorem e_op : dOp f ta tb ρ h = (ta ρ h).bind fun x h => (tb ρ h).bind fun y h => f x y h := rfl
@[simp] theorem e_un : dUn f1 ta ρ h = (ta ρ h).bind f1 := rfl
@[simp] theorem e_nil : dNil ρ h = .ok [] h := rfl
@[simp] theorem e_cons : dCons ta ts ρ h = (ta ρ h).bind fun x h => (ts ρ h).bind fun xs h => .ok (x :: xs) h := rfl
@[simp] theorem e_tup : dTup ts ρ h = (ts ρ h).bind fun xs h => if xs.length ≤ sizeLine then .ok (.tup xs) h else .no := rfl
@[simp] theorem e_lst : dLst nm ts ρ h = (ts ρ h).bind fun xs h => if xs.length ≤ sizeLine then mkL nm xs h else .no := rfl
@[simp] theorem e_B : dB ta ρ h = (ta ρ h).bind asB := rfl
@[simp] theorem e_and : dAnd t u ρ h = (t ρ h).bind fun c h => if c = true then u ρ h else .ok false h := rfl
@[simp] theorem e_or : dOr t u ρ h = (t ρ h).bind fun c h => if c = true then .ok true h else u ρ h := rfl
@[simp] theorem e_not : dNot t ρ h = (t ρ h).bind fun c h => .ok (!c) h := rfl
@[simp] theorem e_andV : dAndV ta tb ρ h = (ta ρ h).bind fun x h => (asB x h).bind fun c h => if c = true then tb ρ h else .ok (.bl false) h := rfl
@[simp] theorem e_orV : dOrV ta tb ρ h = (ta ρ h).bind fun x h => (asB x h).bind fun c h => if c = true then .ok (.bl true) h else tb ρ h := rfl
@[simp] theorem e_notV : dNotV ta ρ h = (ta ρ h).bind fun x h => (asB x h).bind fun c h => .ok (.bl (!c)) h := rfl
@[simp] theorem e_if : dIf t ta tb ρ h = (t ρ h).bind fun c h => if c = true then ta ρ h else tb ρ h := rfl
@[simp] theorem e_CB : dCB F ts ρ h = (ts ρ h).bind F := rfl
@[simp] theorem e_call : dCall n F ts ρ h = (ts ρ h).bind fun ds h => if ds.length = n then F ds h else .no := rfl
@[simp] theorem asB_bl {b : Bool} : asB (.bl b) h = .ok b h := rfl
@[simp] theorem e_var : dVar i ρ h = match ρ[i]? with
  | some (some d) => .ok d h
  | _ => .no := rfl
@[simp] theorem e_BM : dBM T FMm ta ts ρ h = (ta ρ h).bind fun x h => if isTy T x h = true then (ts ρ h).bind fun xs h => FMm x xs h else .no := rfl
@[simp] theorem e_BM0 : dBM0 T FMm ta ρ h = (ta ρ h).bind fun x h => if isTy T x h = true then FMm x [] h else .no := rfl
end
section
variable {ta : TD} {tg : TGD} {tgs : TGDs} {u w : SD} {ρ : DE} {h : CH} {t : TB} {ts : TDs} {i j : Nat} {d : D} {ds : List D} {N : Nat} {ti : TDw}
@[simp] theorem s_next : dNext ρ h = .nx ρ h := rfl
@[simp] theorem s_seq : dSeq u w ρ h = (u ρ h).bind w := rfl
@[simp] theorem s_if : dIfS t u w ρ h = (t ρ h).toS ρ fun b h => if b = true then u ρ h else w ρ h := rfl
@[simp] theorem s_ret : dRet ta ρ h = (ta ρ h).toS ρ fun d h => .rt d h := rfl
@[simp] theorem s_retN : dRetN ρ h = .rt .non h := rfl
@[simp] theorem s_brk : dBreak ρ h = .bk ρ h := rfl
@[simp] theorem s_cont : dCont ρ h = .ct ρ h := rfl
@[simp] theorem s_drop : dDrop ta ρ h = (ta ρ h).toS ρ fun _ h => .nx ρ h := rfl
@[simp] theorem s_asg : dAsg ta tg ρ h = (ta ρ h).toS ρ fun d h => (tg d ρ h).put fun ρ h => .nx ρ h := rfl
@[simp] theorem s_par : dPar i j ts ρ h = (ts ρ h).toS ρ fun ds h => match ds with
  | [x, y] => .nx ((ρ.set i (some x)).set j (some y)) h
  | _ => .no := rfl
@[simp] theorem g_name : gdName i d ρ h = .ok (ρ.set i (some d)) h := rfl
@[simp] theorem s_for : dFor ti tg u ρ h = (ti ρ h).toS ρ fun w h => (dForL tg u w.1 ρ h).unl w.2 := rfl
@[simp] theorem e_seqI : dSeqI ta ρ h = (ta ρ h).bind fun d h => match itemsD h d with
  | some ds => .ok (ds, none) h
  | none => lockD d h := rfl
end
def Fr (S : List Nat) (h h' : CH) : Prop := h.nx ≤ h'.nx ∧ ∀ k, k < h.nx → k ∉ S → h'.ob k = h.ob k
theorem Fr.refl {S : List Nat} {h : CH} : Fr S h h := ⟨Nat.le_refl _, fun _ _ _ => rfl⟩
theorem Fr.trans {S : List Nat} {h h1 h2 : CH} (a : Fr S h h1) (b : Fr S h1 h2) : Fr S h h2 := ⟨Nat.le_trans a.1 b.1, fun k l n => (b.2 k (Nat.lt_of_lt_of_le l a.1) n).trans (a.2 k l n)⟩
/-! ### the draws -/
theorem s_wc : ("wide" : Str) ≠ "cells" := by decide +kernel
theorem s_wr : ("wide" : Str) ≠ "rest" := by decide +kernel
theorem s_wt : ("wide" : Str) ≠ "turn" := by decide +kernel
theorem s_cr : ("cells" : Str) ≠ "rest" := by decide +kernel
theorem s_ct : ("cells" : Str) ≠ "turn" := by decide +kernel
theorem s_rt : ("rest" : Str) ≠ "turn" := by decide +kernel
def drKvs (w : Nat) (cs : List Int) (x t : Int) : List (Key × D) := [(.inr "wide", .ref w), (.inr "cells", .lst (cs.map D.int)), (.inr "rest", .int x), (.inr "turn", .int t)]
section
variable {w : Nat} {cs : List Int} {x t z : Int}
theorem dr_wide : dGet (drKvs w cs x t) (.inr "wide") = some (.ref w) := by simp [dGet, drKvs]
theorem dr_cells : dGet (drKvs w cs x t) (.inr "cells") = some (.lst (cs.map D.int)) := by simp [dGet, drKvs, s_wc]
theorem dr_rest : dGet (drKvs w cs x t) (.inr "rest") = some (.int x) := by simp [dGet, drKvs, s_wr, s_cr]
theorem dr_turn : dGet (drKvs w cs x t) (.inr "turn") = some (.int t) := by simp [dGet, drKvs, s_wt, s_ct, s_rt]
theorem dr_putR : dPut (drKvs w cs x t) (.inr "rest") (.int z) = drKvs w cs z t := by simp [dPut, drKvs, s_wr, s_cr, s_rt.symm]
theorem dr_putT : dPut (drKvs w cs x t) (.inr "turn") (.int z) = drKvs w cs x z := by simp [dPut, drKvs, s_wt, s_ct, s_rt]
end
structure DrawAt (r w : Nat) (n : Nat) (ws cs : List Int) (x t : Int) (h : CH) : Prop where
  or_ : h.ob r = some (.dct (drKvs w cs x t))
  ow : h.ob w = some (.lst (ws.map D.int))
  ne : r ≠ w
  lr : r < h.nx
  lw : w < h.nx
  cs_ : ∀ c, c ∈ cs → 0 ≤ c ∧ c < 2147483629
  lws : ws.length ≤ 63
  lcs : cs.length ≤ 63
  t0 : 0 ≤ t
  tn : t + (n : Int) ≤ 1000000000
def DrawOk (r w n : Nat) (h : CH) : Prop := ∃ ws cs x t, DrawAt r w n ws cs x t h
end CM
namespace CM
open PySem PySem.Spec PyProof.Rows L2
def u__law_begun : SD := dSeq (dAsg (dLc true (dSeqI (dVar 0)) (gdName 2) (dB (dOp (fB fun i j => decide (i ≥ j)) (dCB fAbs (dCons (dVar 2) (dNil))) (dOp fPow (dC (.int 10)) (dC (.int 18))))) (dOp fSubI (dCB fAbs (dCons (dVar 2) (dNil))) (dOp fPow (dC (.int 10)) (dC (.int 18)))) [2]) (gdName 1)) (dRet (dDisp true [(dC (.str "wide"), dVar 1), (dC (.str "cells"), dLc false (dSeqI (dVar 0)) (gdName 2) (dYes) (dOp fMod (dCB fInt (dCons (dCB fAbs (dCons (dVar 2) (dNil))) (dNil))) (dC (.int 2147483629))) [2]), (dC (.str "rest"), dC (.int 0)), (dC (.str "turn"), dC (.int 0))]))
def F__law_begun : FD := bodyF 3 u__law_begun
def u__law_mixed : SD := dSeq (dPar 1 2 (dCons (dOp (fAdd false) (dOp fIx (dVar 0) (dC (.str "turn"))) (dC (.int 1))) (dCons (dC (.int 0)) (dNil)))) (dSeq (dAsg (dVar 1) (gdSub (dVar 0) (dC (.str "turn")))) (dSeq (dFor (dSeqI (dLst false (dCons (dC (.int 2147483629)) (dCons (dC (.int 2147483587)) (dCons (dC (.int 2147483579)) (dCons (dC (.int 2147483563)) (dNil))))))) (gdName 3) (dSeq (dAsg (dOp (fAdd false) (dOp (fMul false) (dC (.int 61441)) (dVar 1)) (dOp fDiv (dVar 3) (dC (.int 19)))) (gdName 4)) (dSeq (dFor (dSeqI (dOp fIx (dVar 0) (dC (.str "cells")))) (gdName 5) (dAsg (dOp fMod (dCB fInt (dCons (dOp (fAdd false) (dOp (fAdd false) (dOp (fMul false) (dVar 4) (dC (.int 48271))) (dVar 5)) (dVar 1)) (dNil))) (dVar 3)) (gdName 4))) (dAsg (dOp (fAdd false) (dOp (fMul false) (dVar 2) (dC (.int 2147483647))) (dOp fMod (dCB fInt (dCons (dOp fPow (dVar 4) (dC (.int 5))) (dNil))) (dVar 3))) (gdName 2))))) (dRet (dVar 2))))
def F__law_mixed : FD := bodyF 6 u__law_mixed
def u__law_take : SD := dSeq (dIfS (dB (dOp (fEq false) (dOp fIx (dVar 0) (dC (.str "rest"))) (dC (.int 0)))) (dAsg (dIf (dB (dOp (fEq true) (dOp fIx (dVar 0) (dC (.str "wide"))) (dLst false (dNil)))) (dBM "list" fPopAt (dOp fIx (dVar 0) (dC (.str "wide"))) (dCons (dC (.int 0)) (dNil))) (dCall 1 F__law_mixed (dCons (dVar 0) (dNil)))) (gdSub (dVar 0) (dC (.str "rest")))) (dNext)) (dSeq (dAsg (dOp fMod (dCB fInt (dCons (dOp fIx (dVar 0) (dC (.str "rest"))) (dNil))) (dVar 1)) (gdName 2)) (dSeq (dAsg (dOp fDiv (dOp fIx (dVar 0) (dC (.str "rest"))) (dVar 1)) (gdSub (dVar 0) (dC (.str "rest")))) (dRet (dVar 2))))
def F__law_take : FD := bodyF 3 u__law_take
def u__law_pick : SD := dRet (dOp fIx (dVar 1) (dCall 2 F__law_take (dCons (dVar 0) (dCons (dCB fLen (dCons (dVar 1) (dNil))) (dNil)))))
def F__law_pick : FD := bodyF 2 u__law_pick
section
variable {r w n : Nat} {ws cs : List Int} {x t : Int} {h : CH}
abbrev mixBody : SD := dAsg (dOp fMod (dCB fInt (dCons (dOp (fAdd false) (dOp (fAdd false) (dOp (fMul false) (dVar 4) (dC (.int 48271))) (dVar 5)) (dVar 1)) (dNil))) (dVar 3)) (gdName 4)
theorem mix_in {d0 f : D} {tn p : Int} (hp : 0 < p) : ∀ (cs : List Int) (b : Int) (y : Option D), ∃ (b' : Int) (y' : Option D), dForL (gdName 5) mixBody (cs.map D.int) [some d0, some (.int tn), some f, some (.int p), some (.int b), y] h = .nx [some d0, some (.int tn), some f, some (.int p), some (.int b'), y'] h ∧ ((cs = [] ∧ b' = b) ∨ (0 ≤ b' ∧ b' < p))
  | [], b, y => ⟨b, y, rfl, .inl ⟨rfl, rfl⟩⟩
  | c :: cs, b, y => by
    obtain ⟨b', y', e, q⟩ := mix_in hp cs ((b * 48271 + c + tn) % p) (some (.int c))
    refine ⟨b', y', ?_, .inr ?_⟩
    · have cm : CMul b 48271 := .inr ⟨by decide, by decide⟩
      simp only [List.map_cons, dForL]
      simp [fMul, fAdd, fInt, fMod, hp, cm]
      exact e
    · rcases q with ⟨_, rfl⟩ | q
      · exact ⟨Int.emod_nonneg _ (by omega), Int.emod_lt_of_pos _ hp⟩
      · exact q
theorem ix_dr {k : Key} {d : D} {kd : D} (hk : keyD kd = some k) (e : h.ob r = some (.dct (drKvs w cs x t))) (g : dGet (drKvs w cs x t) k = some d) (ni : ∀ i, kd ≠ .int i) : fIx (.ref r) kd h = .ok d h := by
  cases kd with
  | str z => cases hk; simp [fIx, seqOf, dctOf, e, keyD, g]
  | _ => first | (cases hk; done) | exact absurd rfl (ni _)
abbrev outBody : SD := dSeq (dAsg (dOp (fAdd false) (dOp (fMul false) (dC (.int 61441)) (dVar 1)) (dOp fDiv (dVar 3) (dC (.int 19)))) (gdName 4)) (dSeq (dFor (dSeqI (dOp fIx (dVar 0) (dC (.str "cells")))) (gdName 5) mixBody) (dAsg (dOp (fAdd false) (dOp (fMul false) (dVar 2) (dC (.int 2147483647))) (dOp fMod (dCB fInt (dCons (dOp fPow (dVar 4) (dC (.int 5))) (dNil))) (dVar 3))) (gdName 2)))
theorem mix_one {f p tn : Int} {y4 y5 : Option D} (e : h.ob r = some (.dct (drKvs w cs x t))) (hp : 0 < p) (hp2 : p < 2147483648) (h1 : 0 ≤ tn) (h2 : tn ≤ 1000000000) :
    ∃ (f' : Int) (y4' y5' : Option D), outBody [some (.ref r), some (.int tn), some (.int f), some (.int p), y4, y5] h = .nx [some (.ref r), some (.int tn), some (.int f'), some (.int p), y4', y5'] h := by
  obtain ⟨b', y', ei, q⟩ := mix_in (h := h) (d0 := .ref r) (f := .int f) (tn := tn) hp cs (61441 * tn + p / 19) y5
  have c1 : CMul 61441 tn := .inl ⟨by decide, by decide⟩
  have c2 : CDiv p 19 := ⟨by decide, by decide⟩
  have c3 : CMul f 2147483647 := .inr ⟨by decide, by decide⟩
  have c4 : CPow b' 5 := by
    refine ⟨by decide, by decide, ?_⟩
    rcases q with ⟨_, rfl⟩ | q <;> omega
  have ic := ix_dr (kd := .str "cells") rfl e dr_cells (fun i => by simp)
  refine ⟨f * 2147483647 + b' ^ (5 : Int).toNat % p, some (.int b'), y', ?_⟩
  simp [outBody, c1, c2, fMul, fAdd, fDiv, ic, itemsD]
  rw [ei]
  simp [c3, c4, fMul, fAdd, fPow, fInt, fMod, hp]
theorem mixed_ok (A : DrawAt r w (n + 1) ws cs x t h) : ∃ v : Int, F__law_mixed [.ref r] h = .ok (.int v) (h.put r (.dct (drKvs w cs x (t + 1)))) := by
  have it := ix_dr (kd := .str "turn") rfl A.or_ dr_turn (fun i => by simp)
  have tn := A.tn
  have t0 := A.t0
  have e1 : (h.put r (.dct (drKvs w cs x (t + 1)))).ob r = some (.dct (drKvs w cs x (t + 1))) := put_same
  obtain ⟨f1, y1, z1, q1⟩ := mix_one (f := 0) (p := 2147483629) (tn := t + 1) (y4 := none) (y5 := none) e1 (by decide) (by decide) (by omega) (by omega)
  obtain ⟨f2, y2, z2, q2⟩ := mix_one (f := f1) (p := 2147483587) (tn := t + 1) (y4 := y1) (y5 := z1) e1 (by decide) (by decide) (by omega) (by omega)
  obtain ⟨f3, y3, z3, q3⟩ := mix_one (f := f2) (p := 2147483579) (tn := t + 1) (y4 := y2) (y5 := z2) e1 (by decide) (by decide) (by omega) (by omega)
  obtain ⟨f4, y4, z4, q4⟩ := mix_one (f := f3) (p := 2147483563) (tn := t + 1) (y4 := y3) (y5 := z3) e1 (by decide) (by decide) (by omega) (by omega)
  refine ⟨f4, ?_⟩
  have kl : (drKvs w cs x t).length < sizeLine := by show 4 < sizeLine; decide
  have l4 : 4 ≤ sizeLine := by decide
  have L : dForL (gdName 3) outBody [.int 2147483629, .int 2147483587, .int 2147483579, .int 2147483563] [some (.ref r), some (.int (t + 1)), some (.int 0), none, none, none] (h.put r (.dct (drKvs w cs x (t + 1)))) = .nx [some (.ref r), some (.int (t + 1)), some (.int f4), some (.int 2147483563), y4, z4] (h.put r (.dct (drKvs w cs x (t + 1)))) := by
    simp only [dForL, g_name, put_ok, List.set_cons_zero, List.set_cons_succ]
    rw [q1]
    simp only [List.set_cons_zero, List.set_cons_succ]
    rw [q2]
    simp only [List.set_cons_zero, List.set_cons_succ]
    rw [q3]
    simp only [List.set_cons_zero, List.set_cons_succ]
    rw [q4]
  simp only [F__law_mixed, bodyF, startD, u__law_mixed]
  simp [it, fAdd, gdSub, refOf, A.or_, keyD, kl, dr_putT, mkL, itemsD, l4]
  rw [L]
  simp
theorem toP_ints {k : Nat} : ∀ ns : List Int, (ns.map D.int).mapM (toP h (k + 1)) = some (ns.map PyData.int)
  | [] => rfl
  | n :: ns => by
    rw [List.map_cons, List.mapM_cons, toP_ints ns]
    rfl
theorem toP_ref {k n : Nat} {xs : List D} (e : h.ob k = some (.lst xs)) : toP h (n + 1) (.ref k) = (xs.mapM (toP h n)).map .list := by simp only [toP, e]
theorem lay_ints : ∀ ns : List Int, PyData.canLayAll0 (ns.map PyData.int) = true
  | [] => rfl
  | n :: ns => by simp only [List.map_cons, PyData.canLayAll0, PyData.canLay0, lay_ints ns, Bool.and_self]
theorem dep_ints : ∀ ns : List Int, PyData.depthAll (ns.map PyData.int) = 0
  | [] => rfl
  | n :: ns => by simp only [List.map_cons, PyData.depthAll, PyData.depth, dep_ints ns]; rfl
theorem shaped_ints (ns : List Int) : SeqAt.shaped (.list (ns.map PyData.int)) = true := by
  simp only [SeqAt.shaped, PyData.canLay0, lay_ints, PyData.depth, dep_ints, Bool.true_and]
  decide
/-- a list of ints against the empty one -/
theorem ne_nil_ints {k : Nat} (e : h.ob k = some (.lst (ws.map D.int))) : fEq true (.ref k) (.lst []) h = .ok (.bl (!ws.isEmpty)) h := by
  have e1 : toP h 10 (.ref k) = some (.list (ws.map PyData.int)) := by
    rw [toP_ref (n := 9) e, toP_ints (h := h) (k := 8) ws]
    rfl
  have e2 : toP h 10 (.lst []) = some (.list []) := rfl
  have e3 : SeqAt.shaped (.list []) = true := shaped_ints []
  have e4 : PyData.eqv (.list (ws.map PyData.int)) (.list []) = ws.isEmpty := by
    cases ws with
    | nil => rfl
    | cons a l => rfl
  have e5 : scalD (.ref k) (.lst []) = false := rfl
  unfold fEq
  rw [e5, e1, e2]
  simp [shaped_ints, e3, e4, bneg]
theorem eq0_int {i j : Int} : fEq false (.int i) (.int j) h = .ok (.bl (i == j)) h := by simp [fEq, scalD, flatD, eqF, bneg]
/-- only the draws change -/
def DrFr (r w : Nat) (h h' : CH) : Prop := h'.nx = h.nx ∧ ∀ k, k ≠ r → k ≠ w → h'.ob k = h.ob k
theorem DrFr.refl : DrFr r w h h := ⟨rfl, fun _ _ _ => rfl⟩
theorem DrFr.trans {h1 h2 : CH} (a : DrFr r w h h1) (b : DrFr r w h1 h2) : DrFr r w h h2 := ⟨b.1.trans a.1, fun k n m => (b.2 k n m).trans (a.2 k n m)⟩
theorem DrFr.putR {o : MO} : DrFr r w h (h.put r o) := ⟨rfl, fun k n _ => put_ne n⟩
theorem DrFr.putW {o : MO} : DrFr r w h (h.put w o) := ⟨rfl, fun k _ n => put_ne n⟩
theorem DrawAt.setR {x' t' : Int} {m : Nat} (A : DrawAt r w n ws cs x t h) (t0 : 0 ≤ t') (tn : t' + (m : Int) ≤ 1000000000) : DrawAt r w m ws cs x' t' (h.put r (.dct (drKvs w cs x' t'))) :=
  ⟨put_same, by rw [put_ne A.ne.symm]; exact A.ow, A.ne, A.lr, A.lw, A.cs_, A.lws, A.lcs, t0, tn⟩
/-- the rest is there -/
theorem take_first (A : DrawAt r w (n + 1) ws cs x t h) {s : Int} : ∃ (ws' : List Int) (x' t' : Int) (h' : CH), (dIfS (dB (dOp (fEq false) (dOp fIx (dVar 0) (dC (.str "rest"))) (dC (.int 0)))) (dAsg (dIf (dB (dOp (fEq true) (dOp fIx (dVar 0) (dC (.str "wide"))) (dLst false (dNil)))) (dBM "list" fPopAt (dOp fIx (dVar 0) (dC (.str "wide"))) (dCons (dC (.int 0)) (dNil))) (dCall 1 F__law_mixed (dCons (dVar 0) (dNil)))) (gdSub (dVar 0) (dC (.str "rest")))) (dNext)) [some (.ref r), some (.int s), none] h = .nx [some (.ref r), some (.int s), none] h' ∧ DrawAt r w n ws' cs x' t' h' ∧ DrFr r w h h' := by
  have ir := ix_dr (kd := .str "rest") rfl A.or_ dr_rest (fun i => by simp)
  have iw := ix_dr (kd := .str "wide") rfl A.or_ dr_wide (fun i => by simp)
  have kl : ∀ y z, (drKvs w cs y z).length < sizeLine := fun y z => by show 4 < sizeLine; decide
  have A1 : DrawAt r w n ws cs x t h := ⟨A.or_, A.ow, A.ne, A.lr, A.lw, A.cs_, A.lws, A.lcs, A.t0, by have := A.tn; omega⟩
  by_cases hx : x = 0
  · cases ws with
    | nil =>
      obtain ⟨v, ev⟩ := mixed_ok A
      have A2 : DrawAt r w n [] cs x (t + 1) (h.put r (.dct (drKvs w cs x (t + 1)))) := A.setR (by have := A.t0; omega) (by have := A.tn; omega)
      refine ⟨[], v, t + 1, _, ?_, A2.setR A2.t0 A2.tn, DrFr.putR.trans DrFr.putR⟩
      simp [ir, iw, eq0_int, hx, ne_nil_ints A.ow, mkL]
      have ev' := ev
      rw [hx] at ev'
      rw [ev']
      simp [gdSub, refOf, keyD, put_same, kl, dr_putR]
    | cons a ws =>
      have e1 : h.ob w = some (.lst (D.int a :: ws.map D.int)) := A.ow
      have ne := A.ne
      have o1 : (h.put w (.lst (ws.map D.int))).ob r = some (.dct (drKvs w cs x t)) := by rw [put_ne ne]; exact A.or_
      refine ⟨ws, a, t, (h.put w (.lst (ws.map D.int))).put r (.dct (drKvs w cs a t)), ?_, ⟨put_same, by rw [put_ne ne.symm]; exact put_same, ne, A.lr, A.lw, A.cs_, Nat.le_of_succ_le A.lws, A.lcs, A.t0, A1.tn⟩, DrFr.putW.trans DrFr.putR⟩
      have si : seqIndex? 0 (ws.length + 1) = some 0 := by simp [seqIndex?]
      simp [ir, iw, eq0_int, hx, ne_nil_ints A.ow, mkL, isTy, lstOf, fPopAt, e1, si]
      rw [hx] at o1
      simp [gdSub, refOf, keyD, o1, kl, dr_putR]
  · refine ⟨ws, x, t, h, ?_, A1, .refl⟩
    simp [ir, eq0_int, hx]
theorem take_ok (A : DrawOk r w (n + 1) h) {s : Int} (hs : 0 < s) (hs2 : s < 1073741824) : ∃ (v : Int) (h' : CH), F__law_take [.ref r, .int s] h = .ok (.int v) h' ∧ 0 ≤ v ∧ v < s ∧ DrawOk r w n h' ∧ DrFr r w h h' := by
  obtain ⟨ws, cs, x, t, A⟩ := A
  obtain ⟨ws', x', t', h1, e1, A1, f1⟩ := take_first A (s := s)
  have ir := ix_dr (kd := .str "rest") rfl A1.or_ dr_rest (fun i => by simp)
  have kl : ∀ y z, (drKvs w cs y z).length < sizeLine := fun y z => by show 4 < sizeLine; decide
  have cd : CDiv x' s := ⟨hs, hs2⟩
  refine ⟨x' % s, h1.put r (.dct (drKvs w cs (x' / s) t')), ?_, Int.emod_nonneg _ (by omega), Int.emod_lt_of_pos _ hs, ⟨ws', cs, _, t', A1.setR A1.t0 A1.tn⟩, f1.trans DrFr.putR⟩
  simp only [F__law_take, bodyF, startD, u__law_take]
  rw [s_seq]
  show ((_ : RS).bind _).res = _
  simp only [List.map_cons, List.map_nil, List.length_cons, List.length_nil, List.cons_append, List.nil_append]
  show (((dIfS _ _ _) [some (D.ref r), some (D.int s), none] h).bind _).res = _
  rw [e1]
  simp [ir, fInt, fMod, hs, fDiv, cd, gdSub, refOf, A1.or_, keyD, kl, dr_putR]
theorem pick_ok (A : DrawOk r w (n + 1) h) {xs : D} {ds : List D} (e : xs = .lst ds ∨ xs = .tup ds) (h0 : ds ≠ []) (h1 : ds.length < 1073741824) : ∃ (d : D) (h' : CH), F__law_pick [.ref r, xs] h = .ok d h' ∧ d ∈ ds ∧ DrawOk r w n h' ∧ DrFr r w h h' := by
  have hp : 0 < ds.length := List.length_pos_iff.mpr h0
  obtain ⟨v, h', e1, l1, l2, A', f⟩ := take_ok A (s := (ds.length : Int)) (by omega) (by omega)
  have sq : ∀ hh, seqOf hh xs = some ds := fun hh => by rcases e with rfl | rfl <;> rfl
  have hv : v.toNat < ds.length := by omega
  have ai : atI ds v = some ds[v.toNat] := by
    have : ixN ds.length v = some v.toNat := by
      unfold ixN
      rw [if_pos (by omega), if_pos l2]
    unfold atI
    rw [this]
    exact List.getElem?_eq_getElem hv
  refine ⟨ds[v.toNat], h', ?_, List.getElem_mem hv, A', f⟩
  have len : fLen [xs] h = .ok (.int ds.length) h := by
    rcases e with rfl | rfl <;> rfl
  have ix : fIx xs (.int v) h' = .ok ds[v.toNat] h' := by
    rcases e with rfl | rfl <;> simp [fIx, seqOf, ai]
  simp [F__law_pick, bodyF, startD, u__law_pick, len, e1, ix]
theorem b1_loop {a : D} : ∀ ns : List Int, ∃ ws : List Int, ws.length ≤ ns.length ∧ dLcL (gdName 2) (dB (dOp (fB fun i j => decide (i ≥ j)) (dCB fAbs (dCons (dVar 2) (dNil))) (dOp fPow (dC (.int 10)) (dC (.int 18))))) (dOp fSubI (dCB fAbs (dCons (dVar 2) (dNil))) (dOp fPow (dC (.int 10)) (dC (.int 18)))) [some a, none, none] (ns.map D.int) h = .ok (ws.map D.int) h
  | [] => ⟨[], Nat.le_refl _, rfl⟩
  | c :: ns => by
    obtain ⟨ws, l, e⟩ := b1_loop ns
    have cp : CPow 10 18 := by decide
    by_cases q : (if c < 0 then -c else c) ≥ 10 ^ (18 : Int).toNat
    · refine ⟨((if c < 0 then -c else c) - 10 ^ (18 : Int).toNat) :: ws, by simp; exact l, ?_⟩
      simp only [List.map_cons, dLcL]
      simp only [g_name, calm_ok, e_B, e_op, e_CB, e_cons, e_var, e_nil, e_C, List.set_cons_zero, List.set_cons_succ, List.getElem?_cons_zero, List.getElem?_cons_succ, bind_ok, fAbs, fPow, fB, if_pos cp, asB_bl, decide_eq_true q, if_true, fSubI]
      rw [e]
      rfl
    · refine ⟨ws, Nat.le_succ_of_le l, ?_⟩
      simp only [List.map_cons, dLcL]
      simp only [g_name, calm_ok, e_B, e_op, e_CB, e_cons, e_var, e_nil, e_C, List.set_cons_zero, List.set_cons_succ, List.getElem?_cons_zero, List.getElem?_cons_succ, bind_ok, fAbs, fPow, fB, if_pos cp, asB_bl, decide_eq_false q, Bool.false_eq_true, if_false]
      exact e
theorem b2_loop {a b : D} : ∀ ns : List Int, ∃ cs : List Int, cs.length = ns.length ∧ (∀ c, c ∈ cs → 0 ≤ c ∧ c < 2147483629) ∧ dLcL (gdName 2) dYes (dOp fMod (dCB fInt (dCons (dCB fAbs (dCons (dVar 2) (dNil))) (dNil))) (dC (.int 2147483629))) [some a, some b, none] (ns.map D.int) h = .ok (cs.map D.int) h
  | [] => ⟨[], rfl, fun _ h => (nomatch h), rfl⟩
  | c :: ns => by
    obtain ⟨cs, l, hc, e⟩ := b2_loop ns
    refine ⟨((if c < 0 then -c else c) % 2147483629) :: cs, by simp [l], fun y hy => ?_, ?_⟩
    · rcases List.mem_cons.mp hy with rfl | hy
      · exact ⟨Int.emod_nonneg _ (by decide), Int.emod_lt_of_pos _ (by decide)⟩
      · exact hc y hy
    · simp only [List.map_cons, dLcL, dYes]
      simp only [g_name, calm_ok, e_op, e_CB, e_cons, e_var, e_nil, e_C, List.set_cons_zero, List.set_cons_succ, List.getElem?_cons_zero, List.getElem?_cons_succ, bind_ok, fAbs, fInt, fMod, if_true, show ((0 : Int) < 2147483629) from by decide]
      rw [e]
      rfl
theorem begun_ok {ns : List Int} (hn : ns.length ≤ 63) : ∃ h', F__law_begun [.scr ns] h = .ok (.ref (h.nx + 1)) h' ∧ DrawOk (h.nx + 1) h.nx 1000000000 h' ∧ h'.nx = h.nx + 2 ∧ ∀ k, k < h.nx → h'.ob k = h.ob k := by
  obtain ⟨ws, lw, e1⟩ := b1_loop (h := h) (a := .scr ns) ns
  obtain ⟨cs, lc, hc, e2⟩ := b2_loop (h := h.new (.lst (ws.map D.int))) (a := .scr ns) (b := .ref h.nx) ns
  have sz : ns.length ≤ sizeLine := Nat.le_trans hn (by decide)
  refine ⟨(h.new (.lst (ws.map D.int))).new (.dct (drKvs h.nx cs 0 0)), ?_, ⟨ws, cs, 0, 0, ?_, ?_, by omega, by show h.nx + 1 < h.nx + 2; omega, by show h.nx < h.nx + 2; omega, hc, by omega, by omega, by decide, by decide⟩, rfl, fun k hk => ?_⟩
  · simp only [F__law_begun, bodyF, startD, u__law_begun]
    have i1 : itemsD h (.scr ns) = some (ns.map D.int) := rfl
    have i2 : itemsD (h.new (.lst (ws.map D.int))) (.scr ns) = some (ns.map D.int) := rfl
    have me : mergeD [] (drKvs h.nx cs 0 0) = drKvs h.nx cs 0 0 := by simp [mergeD, dPut, drKvs, s_wc, s_wr, s_wt, s_cr, s_ct, s_rt]
    simp only [List.map_cons, List.map_nil, List.length_cons, List.length_nil, List.cons_append, List.nil_append, s_seq, s_asg, dLc, e_seqI, e_var, List.getElem?_cons_zero, bind_ok, i1, List.length_map, if_pos sz, wipeD, List.replicate, List.set_cons_zero, List.set_cons_succ, e1, runl_none, mkL, toS_ok, g_name, put_ok, sbind_nx, s_ret, dDisp, dPairs, e_C, List.getElem?_cons_succ, i2, e2, keysOf, keyD]
    show ((if 4 ≤ 15 then mkD true (mergeD [] (drKvs h.nx cs 0 0)) _ else R.no).toS _ _).res = _
    rw [me]
    rfl
  · show (if h.nx + 1 = h.nx + 1 then _ else _) = _
    rw [if_pos rfl]
  · show (if h.nx = h.nx + 1 then _ else (if h.nx = h.nx then _ else _)) = _
    rw [if_neg (by omega), if_pos rfl]
  · show (if k = h.nx + 1 then _ else (if k = h.nx then _ else _)) = _
    rw [if_neg (by omega), if_neg (by omega)]
end
end CM
/-! readings as wishes: what a reading ends with -/
namespace CM
open PySem PySem.Spec PyProof.Rows L2

def R.sat {α : Type} (r : R α) (Q : α → CH → Prop) : Prop := match r with
  | .ok a h => Q a h
  | _ => False
/-- a statement goes on by N or returns by T -/
def RS.sat (r : RS) (N : DE → CH → Prop) (T : D → CH → Prop) : Prop := match r with
  | .nx ρ h => N ρ h
  | .rt d h => T d h
  | _ => False
/-- what comes behind a statement -/
def Kont (w : SD) (N : DE → CH → Prop) (T : D → CH → Prop) (ρ : DE) (h : CH) : Prop := (w ρ h).sat N T
section
variable {α β : Type} {a : α} {h : CH} {m : R α} {f : α → CH → R β} {g : α → CH → RS} {ρ : DE} {w u : SD} {d : D} {Q : β → CH → Prop} {P P' : α → CH → Prop} {N : DE → CH → Prop} {T : D → CH → Prop} {r : RS}
@[simp] theorem sat_ok : (R.ok a h).sat P = P a h := rfl
@[simp] theorem sat_no : (R.no : R α).sat P = False := rfl
@[simp] theorem sat_bind : (m.bind f).sat Q = m.sat fun a h => (f a h).sat Q := by cases m <;> rfl
@[simp] theorem sat_calm : (m.calm f).sat Q = m.sat fun a h => (f a h).sat Q := by cases m <;> rfl
@[simp] theorem sat_toS : (m.toS ρ g).sat N T = m.sat fun a h => (g a h).sat N T := by cases m <;> rfl
@[simp] theorem sat_put {m : R DE} : (m.put w).sat N T = m.sat fun ρ h => (w ρ h).sat N T := by cases m <;> rfl
@[simp] theorem sat_ite {c : Prop} [Decidable c] {m m' : R α} : (if c then m else m').sat P = if c then m.sat P else m'.sat P := by split <;> rfl
@[simp] theorem sat_iteS {c : Prop} [Decidable c] {r' : RS} : (if c then r else r').sat N T = if c then r.sat N T else r'.sat N T := by split <;> rfl
@[simp] theorem sat_nx : (RS.nx ρ h).sat N T = N ρ h := rfl
@[simp] theorem sat_rt : (RS.rt d h).sat N T = T d h := rfl
@[simp] theorem sat_noS : (RS.no).sat N T = False := rfl
@[simp] theorem sat_bindS : (r.bind w).sat N T = r.sat (Kont w N T) T := by cases r <;> rfl
@[simp] theorem sat_res {Q : D → CH → Prop} : r.res.sat Q = r.sat (fun _ h => Q .non h) Q := by cases r <;> rfl
@[simp] theorem sat_unl : (r.unl none).sat N T = r.sat N T := by rw [unl_none]
@[simp] theorem sat_unlR : (m.unl none).sat P = m.sat P := by rw [runl_none]
theorem R.sat.mono (x : m.sat P) (k : ∀ a h, P a h → P' a h) : m.sat P' := by
  cases m with
  | ok a h => exact k a h x
  | ex => exact x.elim
  | no => exact x.elim
theorem R.sat.ex (x : m.sat P) : ∃ a h, m = .ok a h ∧ P a h := by
  cases m with
  | ok a h => exact ⟨a, h, rfl, x⟩
  | ex => exact x.elim
  | no => exact x.elim
theorem sat_of {a : α} {h : CH} (e : m = .ok a h) (p : P a h) : m.sat P := by rw [e]; exact p
theorem RS.sat.mono {N' : DE → CH → Prop} {T' : D → CH → Prop} (x : r.sat N T) (k : ∀ ρ h, N ρ h → N' ρ h) (k' : ∀ d h, T d h → T' d h) : r.sat N' T' := by
  cases r with
  | nx => exact k _ _ x
  | rt => exact k' _ _ x
  | _ => exact x.elim
/-- for: an invariant of the items that are left -/
theorem sat_for {tg : TGD} (I : List D → DE → CH → Prop) (step : ∀ d r ρ h, I (d :: r) ρ h → (tg d ρ h).sat fun ρ h => (u ρ h).sat (I r) T) : ∀ {ds : List D} {ρ : DE} {h : CH}, I ds ρ h → (∀ ρ h, I [] ρ h → N ρ h) → (dForL tg u ds ρ h).sat N T
  | [], ρ, h, i, k => k ρ h i
  | d :: r, ρ, h, i, k => by
    obtain ⟨ρ1, h1, e1, x⟩ := (step d r ρ h i).ex
    show ((tg d ρ h).put _).sat N T
    rw [sat_put, e1]
    show (match u ρ1 h1 with
      | .nx ρ2 h2 => dForL tg u r ρ2 h2
      | .ct ρ2 h2 => dForL tg u r ρ2 h2
      | .bk ρ2 h2 => .nx ρ2 h2
      | x => x).sat N T
    cases e : u ρ1 h1 with
    | nx ρ2 h2 => rw [e] at x; exact sat_for I step x k
    | rt d2 h2 => rw [e] at x; exact x
    | _ => rw [e] at x; exact x.elim
theorem for_nil {tg : TGD} : (dForL tg u [] ρ h).sat N T = N ρ h := rfl
theorem for_cons {tg : TGD} {l : List D} (x : (tg d ρ h).sat fun ρ1 h1 => (u ρ1 h1).sat (Kont (dForL tg u l) N T) T) : (dForL tg u (d :: l) ρ h).sat N T := by
  obtain ⟨ρ1, h1, e1, x⟩ := x.ex
  show ((tg d ρ h).put _).sat N T
  rw [sat_put, e1]
  show (match u ρ1 h1 with
    | .nx ρ2 h2 => dForL tg u l ρ2 h2
    | .ct ρ2 h2 => dForL tg u l ρ2 h2
    | .bk ρ2 h2 => .nx ρ2 h2
    | x => x).sat N T
  cases e : u ρ1 h1 with
  | nx ρ2 h2 => rw [e] at x; exact x
  | rt d2 h2 => rw [e] at x; exact x
  | _ => rw [e] at x; exact x.elim
/-- while: an invariant with a measure -/
theorem sat_while {c : TB} (I : Nat → DE → CH → Prop) (step : ∀ n ρ h, I n ρ h → (c ρ h).sat fun b h1 => if b = true then ∃ n', n = n' + 1 ∧ (u ρ h1).sat (I n') T else N ρ h1) : ∀ {n k : Nat} {ρ : DE} {h : CH}, n < k → I n ρ h → (dWhile c u k ρ h).sat N T
  | n, 0, ρ, h, l, i => absurd l (Nat.not_lt_zero _)
  | n, k + 1, ρ, h, l, i => by
    obtain ⟨b, h1, e1, x⟩ := (step n ρ h i).ex
    show ((c ρ h).toS ρ _).sat N T
    rw [sat_toS, e1]
    cases b with
    | false => exact x
    | true =>
      obtain ⟨n', rfl, x⟩ := x
      show (match u ρ h1 with
        | .nx ρ2 h2 => dWhile c u k ρ2 h2
        | .ct ρ2 h2 => dWhile c u k ρ2 h2
        | .bk ρ2 h2 => .nx ρ2 h2
        | x => x).sat N T
      cases e : u ρ h1 with
      | nx ρ2 h2 => rw [e] at x; exact sat_while I step (by omega) x
      | rt d2 h2 => rw [e] at x; exact x
      | _ => rw [e] at x; exact x.elim
/-- a comprehension: what was made so far and what is left -/
theorem sat_lcl {tg : TGD} {tt : TB} {te : TD} {ρ0 : DE} {Q : List D → CH → Prop} (I : List D → List D → CH → Prop) (step : ∀ d r ys h, I (d :: r) ys h → (tg d ρ0 h).sat fun ρ2 h => (tt ρ2 h).sat fun b h => if b = true then (te ρ2 h).sat fun y h => I r (ys ++ [y]) h else I r ys h) :
    ∀ {ds ys : List D} {h : CH}, I ds ys h → (∀ zs h, I [] zs h → ∀ l, zs = ys ++ l → Q l h) → (dLcL tg tt te ρ0 ds h).sat Q
  | [], ys, h, i, k => k ys h i [] (by simp)
  | d :: r, ys, h, i, k => by
    have st := step d r ys h i
    obtain ⟨ρ2, h1, e1, st⟩ := st.ex
    obtain ⟨b, h2, e2, st⟩ := st.ex
    show ((tg d ρ0 h).calm _).sat Q
    rw [sat_calm, e1]
    show ((tt ρ2 h1).calm _).sat Q
    rw [sat_calm, e2]
    cases b with
    | true =>
      obtain ⟨y, h3, e3, st⟩ := R.sat.ex (show (te ρ2 h2).sat _ from st)
      show (if true = true then (te ρ2 h2).calm _ else _ : R (List D)).sat Q
      rw [if_pos rfl, sat_calm, e3]
      show ((dLcL tg tt te ρ0 r h3).bind _).sat Q
      rw [sat_bind]
      exact sat_lcl I step st fun zs h i l e => k zs h i (y :: l) (by rw [e]; simp)
    | false =>
      show (if false = true then _ else dLcL tg tt te ρ0 r h2 : R (List D)).sat Q
      rw [if_neg Bool.false_ne_true]
      exact sat_lcl I step st k
end
/-! ### the draws -/
section
variable {r w n m : Nat} {h h1 : CH}
theorem DrawOk.mono (A : DrawOk r w n h) (l : m ≤ n) : DrawOk r w m h := by
  obtain ⟨ws, cs, x, t, A⟩ := A
  exact ⟨ws, cs, x, t, A.or_, A.ow, A.ne, A.lr, A.lw, A.cs_, A.lws, A.lcs, A.t0, by have := A.tn; omega⟩
/-- the draws are not touched -/
theorem DrawOk.keep (A : DrawOk r w n h) (nx : h.nx ≤ h1.nx) (k : ∀ j, j = r ∨ j = w → h1.ob j = h.ob j) : DrawOk r w n h1 := by
  obtain ⟨ws, cs, x, t, A⟩ := A
  exact ⟨ws, cs, x, t, by rw [k r (.inl rfl)]; exact A.or_, by rw [k w (.inr rfl)]; exact A.ow, A.ne, Nat.lt_of_lt_of_le A.lr nx, Nat.lt_of_lt_of_le A.lw nx, A.cs_, A.lws, A.lcs, A.t0, A.tn⟩
theorem DrawOk.lt (A : DrawOk r w n h) : r < h.nx ∧ w < h.nx := by
  obtain ⟨ws, cs, x, t, A⟩ := A
  exact ⟨A.lr, A.lw⟩
theorem take_sat (A : DrawOk r w (n + 1) h) {s : Int} (hs : 0 < s) (hs2 : s < 1073741824) : (F__law_take [.ref r, .int s] h).sat fun d h1 => ∃ v, d = .int v ∧ 0 ≤ v ∧ v < s ∧ DrawOk r w n h1 ∧ DrFr r w h h1 := by
  obtain ⟨v, h1, e, p⟩ := take_ok A hs hs2
  exact sat_of e ⟨v, rfl, p⟩
theorem pick_sat (A : DrawOk r w (n + 1) h) {xs : D} {ds : List D} (e : xs = .lst ds ∨ xs = .tup ds) (h0 : ds ≠ []) (h1 : ds.length < 1073741824) : (F__law_pick [.ref r, xs] h).sat fun d h1 => d ∈ ds ∧ DrawOk r w n h1 ∧ DrFr r w h h1 := by
  obtain ⟨d, h1, e, p⟩ := pick_ok A e h0 h1
  exact sat_of e p
end
end CM
/-! lists of texts; repr of short things -/
namespace CM
open PySem PySem.Spec PyProof.Rows L2

section
variable {h : CH}
theorem toP_strs {k : Nat} : ∀ ns : List Str, (ns.map D.str).mapM (toP h (k + 1)) = some (ns.map PyData.str)
  | [] => rfl
  | n :: ns => by
    rw [List.map_cons, List.mapM_cons, toP_strs ns]
    rfl
abbrev Layd (ns : List Str) : Prop := ∀ x, x ∈ ns → PyData.strOk x = true
theorem lay_strs : ∀ ns : List Str, Layd ns → PyData.canLayAll0 (ns.map PyData.str) = true
  | [], _ => rfl
  | n :: ns, ok => by simp only [List.map_cons, PyData.canLayAll0, PyData.canLay0, ok n (List.mem_cons_self ..), lay_strs ns fun x hx => ok x (List.mem_cons_of_mem _ hx), Bool.and_self]
theorem dep_strs : ∀ ns : List Str, PyData.depthAll (ns.map PyData.str) = 0
  | [] => rfl
  | n :: ns => by simp only [List.map_cons, PyData.depthAll, PyData.depth, dep_strs ns]; rfl
theorem shaped_strs (ns : List Str) (ok : Layd ns) : SeqAt.shaped (.list (ns.map PyData.str)) = true := by
  simp only [SeqAt.shaped, PyData.canLay0, lay_strs ns ok, PyData.depth, dep_strs, Bool.true_and]
  decide
theorem shapedT_strs (ns : List Str) (ok : Layd ns) : SeqAt.shaped (.tuple (ns.map PyData.str)) = true := by
  simp only [SeqAt.shaped, PyData.canLay0, lay_strs ns ok, PyData.depth, dep_strs, Bool.true_and]
  decide
/-- a list of texts against the empty one -/
theorem ne_nil_strs {k : Nat} {ws : List Str} (ok : Layd ws) (e : h.ob k = some (.lst (ws.map D.str))) : fEq true (.ref k) (.lst []) h = .ok (.bl (!ws.isEmpty)) h := by
  have e1 : toP h 10 (.ref k) = some (.list (ws.map PyData.str)) := by
    rw [toP_ref (n := 9) e, toP_strs (h := h) (k := 8) ws]
    rfl
  have e2 : toP h 10 (.lst []) = some (.list []) := rfl
  have e3 : SeqAt.shaped (.list []) = true := shaped_strs [] fun x hx => (nomatch hx)
  have e4 : PyData.eqv (.list (ws.map PyData.str)) (.list []) = ws.isEmpty := by
    cases ws with
    | nil => rfl
    | cons a l => rfl
  have e5 : scalD (.ref k) (.lst []) = false := rfl
  unfold fEq
  rw [e5, e1, e2]
  simp [shaped_strs ws ok, e3, e4, bneg]
theorem eqvAll_self : ∀ ns : List Str, PyData.eqvAll (ns.map PyData.str) (ns.map PyData.str) = true
  | [] => rfl
  | n :: ns => by simp [PyData.eqvAll, PyData.eqv, eqvAll_self ns]
/-- a tuple of texts equals itself -/
theorem eq_tupS {neg : Bool} (ws : List Str) (ok : Layd ws) : fEq neg (.tup (ws.map D.str)) (.tup (ws.map D.str)) h = .ok (.bl (bneg neg true)) h := by
  have e1 : toP h 10 (.tup (ws.map D.str)) = some (.tuple (ws.map PyData.str)) := by
    show ((ws.map D.str).mapM (toP h 9)).map PyData.tuple = _
    rw [toP_strs (h := h) (k := 8) ws]
    rfl
  have e5 : scalD (.tup (ws.map D.str)) (.tup (ws.map D.str)) = false := rfl
  unfold fEq
  rw [e5, e1]
  simp [shapedT_strs ws ok, PyData.eqv, eqvAll_self]
end
/-! ### how long a text is -/
theorem textFrom_le : ∀ (ts : List Str) (k : Nat) (acc : Str), (textFrom k acc ts).length ≤ acc.length + (ts.map fun t => t.length + 2).sum
  | [], k, acc => by simp [textFrom]
  | t :: r, k, acc => by
    have ih := textFrom_le r (k + 1) (acc ++ (if k > 0 then ", " else "" : String) ++ t)
    have e : (acc ++ (if k > 0 then ", " else "" : String) ++ t).length ≤ acc.length + 2 + t.length := by
      rw [strLen_append, strLen_append]
      have : ((if k > 0 then ", " else "" : String) : Str).length ≤ 2 := by split <;> decide
      omega
    simp only [List.map_cons, List.sum_cons]
    refine Nat.le_trans ih ?_
    omega
theorem listText_le (ts : List Str) : (listText ts).length ≤ 2 + (ts.map fun t => t.length + 2).sum := by
  have := textFrom_le ts 0 "["
  unfold listText
  rw [strLen_append]
  have e1 : (("[" : String) : Str).length = 1 := rfl
  have e2 : (("]" : String) : Str).length = 1 := rfl
  omega
theorem piled_le : ∀ ts : List Str, piled ts ≤ (ts.map fun t => t.length + 2).sum
  | [] => by simp [piled]
  | t :: r => by
    have := piled_le r
    rw [piled_cons, List.map_cons, List.sum_cons]
    omega
theorem tupleText_le (ts : List Str) : (tupleText ts).length ≤ 5 + (ts.map fun t => t.length + 2).sum := by
  unfold tupleText
  rw [strLen_append, strLen_append]
  have e1 : (("(" : String) : Str).length = 1 := rfl
  have e2 : ((if ts.length == 1 then ",)" else ")" : String) : Str).length ≤ 2 := by split <;> decide
  have e3 : (Str.join ", " ts).length ≤ (ts.map fun t => t.length + 2).sum := by
    cases ts with
    | nil => decide
    | cons t r =>
      have := join_length_add (t :: r) (by simp)
      have := piled_le (t :: r)
      omega
  omega
theorem sum_le {c : Nat} : ∀ (ts : List Str), (∀ t, t ∈ ts → t.length ≤ c) → (ts.map fun t => t.length + 2).sum ≤ ts.length * (c + 2)
  | [], _ => by simp
  | t :: r, h => by
    have h1 := h t (List.mem_cons_self ..)
    have h2 := sum_le r fun t ht => h t (List.mem_cons_of_mem _ ht)
    simp only [List.map_cons, List.sum_cons, List.length_cons]
    rw [Nat.succ_mul]
    omega
theorem shownAll_map (ps : List PyData) : PyData.shownAll ps = ps.map PyData.shown := by
  induction ps with
  | nil => rfl
  | cons p ps ih => simp [PyData.shownAll, ih]
theorem showableAll_iff (ps : List PyData) : PyData.showableAll ps = ps.all PyData.showable := by
  induction ps with
  | nil => rfl
  | cons p ps ih => simp [PyData.showableAll, ih]
theorem fRepr_ok {h : CH} {d : D} {xs : List D} {p : PyData} (e : seqOf h d = some xs) (e2 : toP h 12 d = some p) (s1 : p.showable = true) (s2 : p.depth ≤ 60) (s3 : p.shown.length ≤ sizeLine) : fRepr [d] h = .ok (.str p.shown) h := by
  unfold fRepr
  simp only [e, e2]
  rw [if_pos ⟨s1, s2, s3⟩]
/-- texts, then tuples of texts -/
def rowD (ws : List Str) (ts : List (List Str)) : D := .lst (ws.map D.str ++ ts.map fun t => .tup (t.map D.str))
def rowP (ws : List Str) (ts : List (List Str)) : PyData := .list (ws.map PyData.str ++ ts.map fun t => .tuple (t.map PyData.str))
theorem mapM_app {α β : Type} (f : α → Option β) : ∀ (l l' : List α) (r r' : List β), l.mapM f = some r → l'.mapM f = some r' → (l ++ l').mapM f = some (r ++ r')
  | [], l', r, r', e, e' => by simp at e; subst e; exact e'
  | a :: l, l', r, r', e, e' => by
    simp only [List.mapM_cons, Option.bind_eq_bind, Option.bind_eq_some_iff, Option.pure_def, Option.some.injEq] at e
    obtain ⟨b, e1, bs, e2, rfl⟩ := e
    simp only [List.cons_append, List.mapM_cons, e1, mapM_app f l l' bs r' e2 e', Option.bind_eq_bind, Option.bind_some, Option.pure_def]
theorem row_toP {h : CH} {k : Nat} (ws : List Str) (ts : List (List Str)) : toP h (k + 3) (rowD ws ts) = some (rowP ws ts) := by
  show ((ws.map D.str ++ ts.map fun t => D.tup (t.map D.str)).mapM (toP h (k + 2))).map PyData.list = _
  have e2 : (ts.map fun t => D.tup (t.map D.str)).mapM (toP h (k + 2)) = some (ts.map fun t => PyData.tuple (t.map PyData.str)) := by
    induction ts with
    | nil => rfl
    | cons t ts ih =>
      have e3 : toP h (k + 2) (.tup (t.map D.str)) = some (.tuple (t.map PyData.str)) := by
        show ((t.map D.str).mapM (toP h (k + 1))).map PyData.tuple = _
        rw [toP_strs]
        rfl
      simp only [List.map_cons, List.mapM_cons, e3, ih, Option.bind_eq_bind, Option.bind_some, Option.pure_def]
  rw [mapM_app _ _ _ _ _ (toP_strs ws) e2]
  rfl
theorem row_repr {h : CH} (ws : List Str) (ts : List (List Str)) (hw : ws.length ≤ 100) (ht : ts.length ≤ 100) (h1 : ∀ x, x ∈ ws → (reprText x).length ≤ 50) (h2 : ∀ t, t ∈ ts → t.length ≤ 100 ∧ ∀ x, x ∈ t → (reprText x).length ≤ 50) :
    fRepr [rowD ws ts] h = .ok (.str (rowP ws ts).shown) h := by
  have tl : ∀ t : List Str, t.length ≤ 100 → (∀ x, x ∈ t → (reprText x).length ≤ 50) → (tupleText (t.map reprText)).length ≤ 5205 := fun t l q => by
    have a := tupleText_le (t.map reprText)
    have b := sum_le (c := 50) (t.map reprText) (fun y hy => by
      obtain ⟨x, hx, rfl⟩ := List.mem_map.mp hy
      exact q x hx)
    rw [List.length_map] at b
    omega
  have sS : ∀ ws : List Str, (ws.map PyData.str).map PyData.shown = ws.map reprText := fun ws => by
    rw [List.map_map]
    exact List.map_congr_left fun x _ => by simp [PyData.shown]
  have sT : (ts.map fun t => PyData.tuple (t.map PyData.str)).map PyData.shown = ts.map fun t => tupleText (t.map reprText) := by
    rw [List.map_map]
    refine List.map_congr_left fun t _ => ?_
    show PyData.shown (.tuple (t.map PyData.str)) = _
    rw [PyData.shown, shownAll_map, sS]
  refine fRepr_ok (xs := ws.map D.str ++ ts.map fun t => .tup (t.map D.str)) rfl (row_toP (k := 9) ws ts) ?_ ?_ ?_
  · show PyData.showableAll (ws.map PyData.str ++ ts.map fun t => PyData.tuple (t.map PyData.str)) = true
    rw [showableAll_iff, List.all_append, Bool.and_eq_true]
    refine ⟨List.all_eq_true.mpr fun p hp => ?_, List.all_eq_true.mpr fun p hp => ?_⟩
    · obtain ⟨x, _, rfl⟩ := List.mem_map.mp hp
      rfl
    · obtain ⟨t, _, rfl⟩ := List.mem_map.mp hp
      show PyData.showableAll (t.map PyData.str) = true
      rw [showableAll_iff]
      refine List.all_eq_true.mpr fun p hp => ?_
      obtain ⟨x, _, rfl⟩ := List.mem_map.mp hp
      rfl
  · have d1 : ∀ (l : List PyData), (∀ p, p ∈ l → p.depth ≤ 1) → PyData.depthAll l ≤ 2 := by
      intro l
      induction l with
      | nil => intro _; simp [PyData.depthAll]
      | cons p l ih =>
        intro q
        have a := q p (List.mem_cons_self ..)
        have b := ih fun x hx => q x (List.mem_cons_of_mem _ hx)
        simp only [PyData.depthAll]
        omega
    have d2 : PyData.depthAll (ws.map PyData.str ++ ts.map fun t => PyData.tuple (t.map PyData.str)) ≤ 2 := d1 _ fun p hp => by
      rcases List.mem_append.mp hp with hp | hp
      · obtain ⟨x, _, rfl⟩ := List.mem_map.mp hp
        simp [PyData.depth]
      · obtain ⟨t, _, rfl⟩ := List.mem_map.mp hp
        simp [PyData.depth, dep_strs]
    simp only [rowP, PyData.depth]
    omega
  · simp only [rowP, PyData.shown, shownAll_map, List.map_append, sS, sT]
    have a := listText_le (ws.map reprText ++ ts.map fun t => tupleText (t.map reprText))
    have b := sum_le (c := 5205) (ws.map reprText ++ ts.map fun t => tupleText (t.map reprText)) (fun y hy => by
      rcases List.mem_append.mp hy with hy | hy
      · obtain ⟨x, hx, rfl⟩ := List.mem_map.mp hy
        exact Nat.le_trans (h1 x hx) (by decide)
      · obtain ⟨t, ht, rfl⟩ := List.mem_map.mp hy
        exact tl t (h2 t ht).1 (h2 t ht).2)
    rw [List.length_append, List.length_map, List.length_map] at b
    have : (ws.length + ts.length) * (5205 + 2) ≤ 200 * 5207 := Nat.mul_le_mul (by omega) (by decide)
    rw [sizeLine_eq]
    omega
end CM
/-! sequences of texts as arguments -/
namespace CM
open PySem PySem.Spec PyProof.Rows L2

abbrev stL (l : List Str) : List D := l.map D.str
/-- a list (named or free) or a tuple of these texts -/
def SeqS (h : CH) (X : D) (l : List Str) : Prop := (∃ k, X = .ref k ∧ h.ob k = some (.lst (stL l))) ∨ X = .lst (stL l) ∨ X = .tup (stL l)
section
variable {h : CH} {X : D} {l ws : List Str}
theorem SeqS.seq (s : SeqS h X l) : seqOf h X = some (stL l) := by
  rcases s with ⟨k, rfl, e⟩ | rfl | rfl
  · simp only [seqOf, e]
  · rfl
  · rfl
theorem strsOf_st : ∀ l : List Str, strsOf (stL l) = some l
  | [] => rfl
  | x :: l => by
    show (match strsOf (stL l) with | some is => some (x :: is) | none => none) = _
    rw [strsOf_st l]
theorem ded_app : ∀ (l acc : List Str), (acc ++ l).Nodup → l.foldl (fun acc x => if x ∈ acc then acc else acc ++ [x]) acc = acc ++ l
  | [], acc, _ => by simp
  | x :: l, acc, nd => by
    have nx : x ∉ acc := fun z => by
      rw [List.nodup_append] at nd
      exact nd.2.2 x z x (List.mem_cons_self ..) rfl
    rw [List.foldl_cons, if_neg nx, ded_app l (acc ++ [x]) (by simpa using nd)]
    simp
theorem ded_nodup (nd : l.Nodup) : ded l = l := by
  have := ded_app l [] (by simpa using nd)
  simpa [ded] using this
theorem fLenS_ok (s : SeqS h X l) (nd : l.Nodup) (hl : l.length < 1000) : fLenS X h = .ok (.int l.length) h := by
  unfold fLenS
  rw [s.seq]
  simp only [strsOf_st]
  rw [if_pos hl, ded_nodup nd]
theorem fLen_ok (s : SeqS h X l) : fLen [X] h = .ok (.int l.length) h := by
  have e := s.seq
  rcases s with ⟨k, rfl, _⟩ | rfl | rfl
  · simp [fLen, e]
  · simp [fLen, e]
  · simp [fLen, e]
theorem fSrt_ok (s : SeqS h X l) (hl : l.length < 64) : fSrt false [X] h = .ok (.lst (stL (sortS l))) h := by
  unfold fSrt
  simp only [s.seq]
  cases l with
  | nil => rfl
  | cons x l =>
    have e1 : intsOf (stL (x :: l)) = none := rfl
    simp only [e1, strsOf_st]
    rw [if_pos hl]
    rfl
theorem fIn_ok {x : Str} (m : x ∈ ws) {neg : Bool} : fIn neg (.str x) (.tup (stL ws)) h = .ok (.bl (bneg neg true)) h := by
  unfold fIn
  have e1 : seqOf h (.tup (stL ws)) = some (stL ws) := rfl
  have e2 : (stL ws).all flatD = true := by simp [flatD]
  have e3 : (stL ws).any (fun e => eqF e (.str x)) = true := by
    rw [List.any_eq_true]
    exact ⟨.str x, List.mem_map.mpr ⟨x, m, rfl⟩, by simp [eqF]⟩
  simp only [e1]
  rw [if_pos ⟨rfl, e2⟩, e3]
theorem CH.ext' {h h' : CH} (a : h.nx = h'.nx) (b : ∀ k, h.ob k = h'.ob k) : h = h' := by
  obtain ⟨n, o⟩ := h
  obtain ⟨n', o'⟩ := h'
  cases a
  have : o = o' := funext b
  rw [this]
theorem put_id {k : Nat} {o : MO} (e : h.ob k = some o) : h.put k o = h := CH.ext' rfl fun j => by
  by_cases z : j = k
  · subst z; rw [put_same, e]
  · rw [put_ne z]
theorem put_put {k : Nat} {o o' : MO} : (h.put k o).put k o' = h.put k o' := CH.ext' rfl fun j => by
  by_cases z : j = k
  · subst z; rw [put_same, put_same]
  · rw [put_ne z, put_ne z, put_ne z]
theorem sat_unlG {r : RS} {u : Unl} {N : DE → CH → Prop} {T : D → CH → Prop} : (r.unl u).sat N T = r.sat (fun ρ h => N ρ (unlH u h)) (fun d h => T d (unlH u h)) := by cases r <;> rfl
/-- a walk over such a sequence, whose body leaves the heap as it is -/
theorem sat_walk {tg : TGD} {u : SD} {N : DE → CH → Prop} {T : D → CH → Prop} {ta : TD} {ρ : DE} (s : SeqS h X l) (ea : ta ρ h = .ok X h) (I : List Str → DE → Prop) (i0 : I l ρ)
    (step : ∀ x r ρ h', I (x :: r) ρ → (tg (.str x) ρ h').sat fun ρ1 h1 => h1 = h' ∧ (u ρ1 h1).sat (fun ρ2 h2 => h2 = h' ∧ I r ρ2) (fun _ _ => False)) (fin : ∀ ρ, I [] ρ → N ρ h) : (dFor (dSeqI ta) tg u ρ h).sat N T := by
  have loop : ∀ (h' : CH), (dForL tg u (stL l) ρ h').sat (fun ρ' h2 => h2 = h' ∧ I [] ρ') (fun _ _ => False) := fun h' =>
    sat_for (I := fun rest ρ' h2 => h2 = h' ∧ ∃ r, rest = stL r ∧ I r ρ') (fun d r ρ1 h2 ⟨e, q, eq, i⟩ => by
      subst e
      cases q with
      | nil => cases eq
      | cons x q =>
        cases eq
        refine (step x q ρ1 h2 i).mono ?_
        rintro ρ2 h3 ⟨rfl, y⟩
        exact y.mono (fun ρ3 h4 ⟨e, i⟩ => ⟨e, q, rfl, i⟩) fun _ _ z => z.elim) ⟨rfl, l, rfl, i0⟩ fun ρ' h2 ⟨e, r, er, i⟩ => ⟨e, by
        cases r with
        | nil => exact i
        | cons => cases er⟩
  rw [s_for, sat_toS, e_seqI, sat_bind, ea, sat_ok]
  rcases s with ⟨k, rfl, e⟩ | rfl | rfl
  · show (lockD (.ref k) h).sat _
    unfold lockD
    simp only [e]
    rw [sat_ok, sat_unlG]
    refine (loop _).mono ?_ fun _ _ z => z.elim
    rintro ρ' h2 ⟨rfl, i⟩
    show N ρ' ((h.put k _).put k _)
    rw [put_put, put_id e]
    exact fin ρ' i
  · show (R.ok (stL l, none) h : R (List D × Unl)).sat _
    rw [sat_ok, sat_unlG]
    exact (loop h).mono (fun ρ' h2 ⟨e, i⟩ => by subst e; exact fin ρ' i) fun _ _ z => z.elim
  · show (R.ok (stL l, none) h : R (List D × Unl)).sat _
    rw [sat_ok, sat_unlG]
    exact (loop h).mono (fun ρ' h2 ⟨e, i⟩ => by subst e; exact fin ρ' i) fun _ _ z => z.elim
end
end CM
namespace W_whilemerged_k61_costs_of_plans
open PySem PySem.Spec PyProof.Rows L2 CM
def top (i : Nat) : Stmt := PySem.Challenge.pw_whilemerged_k61_costs_of_plans.main.body.getD i (.Pass ⟨0, 0, 0, 0⟩)
abbrev s__law_begun : Stmt := top 19
abbrev s__law_mixed : Stmt := top 20
abbrev s__law_take : Stmt := top 21
abbrev s__law_pick : Stmt := top 22
abbrev s__law_owned : Stmt := top 23
abbrev s__law_chain : Stmt := top 24
abbrev s__law_plan : Stmt := top 25
abbrev s__law_is_cell : Stmt := top 26
abbrev s__law_worth : Stmt := top 27
abbrev s_is_cell : Stmt := top 7
abbrev s_is_owned : Stmt := top 8
abbrev s_need_chain : Stmt := top 9
abbrev s_span_of : Stmt := top 12
abbrev s_is_plan : Stmt := top 13
abbrev s_need_plan : Stmt := top 14
abbrev s_copied : Stmt := top 11
abbrev s_owned_by : Stmt := top 10
abbrev s_cost_of : Stmt := top 15
abbrev s_cost : Stmt := top 16
abbrev s_cheapest : Stmt := top 17
abbrev s_law : Stmt := top 28
structure Txt (mg : Str → Option Value) : Prop where
  z_abs : mg "abs" = none
  z_int : mg "int" = none
  z_len : mg "len" = none
  z_tuple : mg "tuple" = none
  z_range : mg "range" = none
  z_isinstance : mg "isinstance" = none
  z_bool : mg "bool" = none
  z_list : mg "list" = none
  z_sorted : mg "sorted" = none
  z_set : mg "set" = none
  z_all : mg "all" = none
  z_str : mg "str" = none
  z_min : mg "min" = none
  z_repr : mg "repr" = none
structure Cst (K : PySem.W.Frag) (CA : CAs) (mg : Str → Option Value) : Prop where
  g_MOST_LAYERS : GV K CA mg "MOST_LAYERS" (.int 8)
  g_KINDS : GV K CA mg "KINDS" (.tup [.str "down", .str "up"])
--READINGS--
def u__law_owned : SD := dSeq (dAsg (dCall 2 F__law_take (dCons (dVar 0) (dCons (dC (.int 6)) (dNil)))) (gdName 2)) (dSeq (dIfS (dB (dOp (fEq false) (dVar 2) (dC (.int 0)))) (dRet (dTup (dNil))) (dNext)) (dSeq (dIfS (dB (dOp (fEq false) (dVar 2) (dC (.int 1)))) (dRet (dTupR (dVar 1))) (dNext)) (dRet (dCB fTupOf (dCons (dLc false (dRng1 (dCons (dVar 1) (dNil))) (gdName 3) (dB (dOp (fEq false) (dCall 2 F__law_take (dCons (dVar 0) (dCons (dIf (dB (dOp (fB fun i j => decide (i < j)) (dVar 2) (dC (.int 5)))) (dC (.int 2)) (dC (.int 4))) (dNil)))) (dC (.int 0)))) (dVar 3) [3]) (dNil))))))
def F__law_owned : FD := bodyF 4 u__law_owned
def u__law_chain : SD := dSeq (dAsg (dCall 2 F__law_pick (dCons (dVar 0) (dCons (dLst false (dCons (dC (.int 1)) (dCons (dC (.int 3)) (dCons (dC (.int 6)) (dCons (dC (.int 10)) (dNil)))))) (dNil)))) (gdName 3)) (dRet (dLc false (dRng1 (dCons (dOp (fAdd false) (dVar 1) (dCall 2 F__law_take (dCons (dVar 0) (dCons (dOp (fAdd false) (dOp fSubI (dVar 2) (dVar 1)) (dC (.int 1))) (dNil))))) (dNil))) (gdName 4) (dYes) (dCall 2 F__law_owned (dCons (dVar 0) (dCons (dVar 3) (dNil)))) [4]))
def F__law_chain : FD := bodyF 5 u__law_chain
def u__law_plan (R_ : FD) : SD := dSeq (dIfS (dB (dOp (fEq false) (dVar 1) (dVar 2))) (dRet (dVar 1)) (dNext)) (dSeq (dAsg (dOp (fAdd false) (dVar 1) (dCall 2 F__law_take (dCons (dVar 0) (dCons (dOp fSubI (dVar 2) (dVar 1)) (dNil))))) (gdName 3)) (dSeq (dAsg (dCall 2 F__law_pick (dCons (dVar 0) (dCons (dLst false (dCons (dC (.str "up")) (dCons (dC (.str "down")) (dNil)))) (dNil)))) (gdName 4)) (dRet (dTup (dCons (dVar 4) (dCons (dCall 3 R_ (dCons (dVar 0) (dCons (dVar 1) (dCons (dVar 3) (dNil))))) (dCons (dCall 3 R_ (dCons (dVar 0) (dCons (dOp (fAdd false) (dVar 3) (dC (.int 1))) (dCons (dVar 2) (dNil))))) (dNil))))))))
def F__law_plan_ : Nat → FD
  | 0 => fun _ _ => .no
  | k + 1 => bodyF 5 (u__law_plan (F__law_plan_ k))
def F__law_plan : FD := F__law_plan_ 9
def u__law_is_cell : SD := dRet (dAndV (dCB (fIsi [] ktB) (dCons (dVar 0) (dCons (dC (.ty "int")) (dNil)))) (dAndV (dNotV (dCB (fIsi [] ktB) (dCons (dVar 0) (dCons (dC (.ty "bool")) (dNil))))) (dOp (fB fun i j => decide (i ≥ j)) (dVar 0) (dC (.int 0)))))
def F__law_is_cell : FD := bodyF 1 u__law_is_cell
def u__law_worth (R_ : FD) : SD := dSeq (dIfS (dB (dCall 1 F__law_is_cell (dCons (dVar 1) (dNil)))) (dRet (dTup (dCons (dC (.int 0)) (dCons (dCB (fListOf false) (dCons (dOp fIx (dVar 0) (dVar 1)) (dNil))) (dNil))))) (dNext)) (dSeq (dAsg (dVar 1) (gdTup 3 (gdCons (gdName 2) (gdCons (gdName 3) (gdCons (gdName 4) (gdNil)))))) (dSeq (dAsg (dTup (dCons (dCall 2 R_ (dCons (dVar 0) (dCons (dVar 3) (dNil)))) (dCons (dCall 2 R_ (dCons (dVar 0) (dCons (dVar 4) (dNil)))) (dNil)))) (gdTup 2 (gdCons (gdName 5) (gdCons (gdName 6) (gdNil))))) (dSeq (dAsg (dIf (dB (dOp (fEq false) (dVar 2) (dC (.str "down")))) (dCB fLen (dCons (dOp fIx (dVar 6) (dC (.int 1))) (dNil))) (dCB fLen (dCons (dLc false (dSeqI (dOp fIx (dVar 5) (dC (.int 1)))) (gdName 8) (dB (dOp (fIn true) (dVar 8) (dOp fIx (dVar 6) (dC (.int 1))))) (dVar 8) [8]) (dNil)))) (gdName 7)) (dRet (dTup (dCons (dOp (fAdd false) (dOp (fAdd false) (dOp fIx (dVar 5) (dC (.int 0))) (dOp fIx (dVar 6) (dC (.int 0)))) (dVar 7)) (dCons (dUn (fSortSet false) (dOp (fAdd false) (dOp fIx (dVar 5) (dC (.int 1))) (dOp fIx (dVar 6) (dC (.int 1))))) (dNil))))))))
def F__law_worth_ : Nat → FD
  | 0 => fun _ _ => .no
  | k + 1 => bodyF 9 (u__law_worth (F__law_worth_ k))
def F__law_worth : FD := F__law_worth_ 9
def u_is_cell : SD := dRet (dAndV (dCB (fIsi [] ktB) (dCons (dVar 0) (dCons (dC (.ty "int")) (dNil)))) (dAndV (dNotV (dCB (fIsi [] ktB) (dCons (dVar 0) (dCons (dC (.ty "bool")) (dNil))))) (dOp (fB fun i j => decide (i ≥ j)) (dVar 0) (dC (.int 0)))))
def F_is_cell : FD := bodyF 1 u_is_cell
def u_is_owned : SD := dSeq (dIfS (dOr (dNot (dB (dCB (fIsi [] ktB) (dCons (dVar 0) (dCons (dC (.ty "tuple")) (dNil)))))) (dNot (dB (dCB (fAllB false) (dCons (dLc false (dSeqI (dVar 0)) (gdName 1) (dYes) (dCall 1 F_is_cell (dCons (dVar 1) (dNil))) [1]) (dNil)))))) (dRet (dC (.bl false))) (dNext)) (dRet (dOp (fEq false) (dCB (fListOf false) (dCons (dVar 0) (dNil))) (dUn (fSortSet false) (dVar 0))))
def F_is_owned : FD := bodyF 2 u_is_owned
def u_need_chain : SD := dSeq (dIfS (dOr (dNot (dB (dCB (fIsT [] ktB) (dCons (dVar 0) (dCons (dTup (dCons (dC (.ty "list")) (dCons (dC (.ty "tuple")) (dNil)))) (dNil)))))) (dNot (dB (dChain (fB fun i j => decide (i ≤ j)) (fB fun i j => decide (i ≤ j)) (dC (.int 1)) (dCB fLen (dCons (dVar 0) (dNil))) (dC (.int 8)))))) (dNever) (dNext)) (dIfS (dNot (dB (dCB (fAllB false) (dCons (dLc false (dSeqI (dVar 0)) (gdName 1) (dYes) (dCall 1 F_is_owned (dCons (dVar 1) (dNil))) [1]) (dNil))))) (dNever) (dNext))
def F_need_chain : FD := bodyF 2 u_need_chain
def u_span_of (R_ : FD) : SD := dSeq (dIfS (dB (dCall 1 F_is_cell (dCons (dVar 1) (dNil)))) (dRet (dIf (dB (dOp (fB fun i j => decide (i < j)) (dVar 1) (dVar 0))) (dTup (dCons (dVar 1) (dCons (dVar 1) (dNil)))) (dC .non))) (dNext)) (dSeq (dIfS (dOr (dNot (dB (dCB (fIsi [] ktB) (dCons (dVar 1) (dCons (dC (.ty "tuple")) (dNil)))))) (dOr (dB (dOp (fEq true) (dCB fLen (dCons (dVar 1) (dNil))) (dC (.int 3)))) (dOr (dNot (dB (dCB (fIsi [] ktB) (dCons (dOp fIx (dVar 1) (dC (.int 0))) (dCons (dC (.ty "str")) (dNil)))))) (dB (dOp (fIn true) (dOp fIx (dVar 1) (dC (.int 0))) (dC (.tup [.str "down", .str "up"]))))))) (dRet (dC .non)) (dNext)) (dSeq (dPar 2 3 (dCons (dCall 2 R_ (dCons (dVar 0) (dCons (dOp fIx (dVar 1) (dC (.int 1))) (dNil)))) (dCons (dCall 2 R_ (dCons (dVar 0) (dCons (dOp fIx (dVar 1) (dC (.int 2))) (dNil)))) (dNil)))) (dSeq (dIfS (dOr (dB (dOp (fIsN false) (dVar 2) (dC .non))) (dOr (dB (dOp (fIsN false) (dVar 3) (dC .non))) (dB (dOp (fEq true) (dOp (fAdd false) (dOp fIx (dVar 2) (dC (.int 1))) (dC (.int 1))) (dOp fIx (dVar 3) (dC (.int 0))))))) (dRet (dC .non)) (dNext)) (dRet (dTup (dCons (dOp fIx (dVar 2) (dC (.int 0))) (dCons (dOp fIx (dVar 3) (dC (.int 1))) (dNil))))))))
def F_span_of_ : Nat → FD
  | 0 => fun _ _ => .no
  | k + 1 => bodyF 4 (u_span_of (F_span_of_ k))
def F_span_of : FD := F_span_of_ 9
def u_is_plan : SD := dSeq (dDrop (dCall 1 F_need_chain (dCons (dVar 0) (dNil)))) (dRet (dOp (fEq false) (dCall 2 F_span_of (dCons (dCB fLen (dCons (dVar 0) (dNil))) (dCons (dVar 1) (dNil)))) (dTup (dCons (dC (.int 0)) (dCons (dOp fSubI (dCB fLen (dCons (dVar 0) (dNil))) (dC (.int 1))) (dNil))))))
def F_is_plan : FD := bodyF 2 u_is_plan
def u_need_plan : SD := dIfS (dNot (dB (dCall 2 F_is_plan (dCons (dVar 0) (dCons (dVar 1) (dNil)))))) (dNever) (dNext)
def F_need_plan : FD := bodyF 2 u_need_plan
def u_copied : SD := dRet (dIf (dB (dOp (fEq false) (dVar 0) (dC (.str "down")))) (dCB fLen (dCons (dVar 2) (dNil))) (dCB fLen (dCons (dLc false (dSeqI (dVar 1)) (gdName 3) (dB (dOp (fIn true) (dVar 3) (dVar 2))) (dVar 3) [3]) (dNil))))
def F_copied : FD := bodyF 4 u_copied
def u_owned_by : SD := dRet (dCB (fListK false) (dCons (dDc2 false (dSeqI (dSl false (dVar 0) (dPart (dVar 1)) (dPart (dOp (fAdd false) (dVar 2) (dC (.int 1)))))) (gdName 3) (dYes) (dSeqI (dVar 3)) (gdName 4) (dYes) (dVar 4) (dC (.bl true)) [3, 4] [4]) (dNil)))
def F_owned_by : FD := bodyF 5 u_owned_by
def u_cost_of (R_ : FD) : SD := dSeq (dIfS (dB (dCall 1 F_is_cell (dCons (dVar 1) (dNil)))) (dRet (dC (.int 0))) (dNext)) (dSeq (dAsg (dVar 1) (gdTup 3 (gdCons (gdName 2) (gdCons (gdName 3) (gdCons (gdName 4) (gdNil)))))) (dSeq (dPar 5 6 (dCons (dCall 2 F_span_of (dCons (dCB fLen (dCons (dVar 0) (dNil))) (dCons (dVar 3) (dNil)))) (dCons (dCall 2 F_span_of (dCons (dCB fLen (dCons (dVar 0) (dNil))) (dCons (dVar 4) (dNil)))) (dNil)))) (dSeq (dAsg (dCall 3 F_copied (dCons (dVar 2) (dCons (dCall 3 F_owned_by (dCons (dVar 0) (dCons (dOp fIx (dVar 5) (dC (.int 0))) (dCons (dOp fIx (dVar 5) (dC (.int 1))) (dNil))))) (dCons (dCall 3 F_owned_by (dCons (dVar 0) (dCons (dOp fIx (dVar 6) (dC (.int 0))) (dCons (dOp fIx (dVar 6) (dC (.int 1))) (dNil))))) (dNil))))) (gdName 7)) (dRet (dOp (fAdd false) (dOp (fAdd false) (dCall 2 R_ (dCons (dVar 0) (dCons (dVar 3) (dNil)))) (dCall 2 R_ (dCons (dVar 0) (dCons (dVar 4) (dNil))))) (dVar 7))))))
def F_cost_of_ : Nat → FD
  | 0 => fun _ _ => .no
  | k + 1 => bodyF 8 (u_cost_of (F_cost_of_ k))
def F_cost_of : FD := F_cost_of_ 9
def u_cost : SD := dSeq (dDrop (dCall 2 F_need_plan (dCons (dVar 0) (dCons (dVar 1) (dNil))))) (dRet (dCall 2 F_cost_of (dCons (dVar 0) (dCons (dVar 1) (dNil)))))
def F_cost : FD := bodyF 2 u_cost
def u_cheapest : SD := dSeq (dDrop (dCall 1 F_need_chain (dCons (dVar 0) (dNil)))) (dSeq (dAsg (dDcT (dRng1 (dCons (dCB fLen (dCons (dVar 0) (dNil))) (dNil))) (gdName 2) (dYes) (dCons (dVar 2) (dCons (dVar 2) (dNil))) (dTup (dCons (dC (.int 0)) (dCons (dVar 2) (dNil)))) [2]) (gdName 1)) (dSeq (dFor (dRng2 (dCons (dC (.int 1)) (dCons (dCB fLen (dCons (dVar 0) (dNil))) (dNil)))) (gdName 3) (dFor (dRng1 (dCons (dOp fSubI (dCB fLen (dCons (dVar 0) (dNil))) (dVar 3)) (dNil))) (gdName 4) (dSeq (dPar 5 6 (dCons (dOp (fAdd false) (dVar 4) (dVar 3)) (dCons (dLst true (dNil)) (dNil)))) (dSeq (dFor (dRng2 (dCons (dVar 4) (dCons (dVar 5) (dNil)))) (gdName 7) (dSeq (dPar 8 9 (dCons (dIxT (dVar 1) (dCons (dVar 4) (dCons (dVar 7) (dNil)))) (dCons (dIxT (dVar 1) (dCons (dOp (fAdd false) (dVar 7) (dC (.int 1))) (dCons (dVar 5) (dNil)))) (dNil)))) (dSeq (dAsg (dTup (dCons (dCall 3 F_owned_by (dCons (dVar 0) (dCons (dVar 4) (dCons (dVar 7) (dNil))))) (dCons (dCall 3 F_owned_by (dCons (dVar 0) (dCons (dOp (fAdd false) (dVar 7) (dC (.int 1))) (dCons (dVar 5) (dNil))))) (dNil)))) (gdName 10)) (dFor (dSeqI (dC (.tup [.str "down", .str "up"]))) (gdName 11) (dDrop (dBM "list" fAppend (dVar 6) (dCons (dTup (dCons (dOp (fAdd false) (dOp (fAdd false) (dOp fIx (dVar 8) (dC (.int 0))) (dOp fIx (dVar 9) (dC (.int 0)))) (dCall 3 F_copied (dCons (dVar 11) (dStar (dVar 10) (dNil))))) (dCons (dTup (dCons (dVar 11) (dCons (dOp fIx (dVar 8) (dC (.int 1))) (dCons (dOp fIx (dVar 9) (dC (.int 1))) (dNil))))) (dNil)))) (dNil)))))))) (dSeq (dAsg (dCB fMinL (dCons (dLc false (dSeqI (dVar 6)) (gdTup 2 (gdCons (gdName 13) (gdCons (gdName 14) (gdNil)))) (dYes) (dVar 13) [13, 14]) (dNil))) (gdName 12)) (dAsg (dOp fIx (dLc false (dSeqI (dVar 6)) (gdName 15) (dB (dOp (fEq false) (dOp fIx (dVar 15) (dC (.int 0))) (dVar 12))) (dVar 15) [15]) (dC (.int 0))) (gdSubT (dVar 1) (dCons (dVar 4) (dCons (dVar 5) (dNil)))))))))) (dRet (dIxT (dVar 1) (dCons (dC (.int 0)) (dCons (dOp fSubI (dCB fLen (dCons (dVar 0) (dNil))) (dC (.int 1))) (dNil)))))))
def F_cheapest : FD := bodyF 16 u_cheapest
def u_law : SD := dSeq (dAsg (dCall 1 F__law_begun (dCons (dVar 0) (dNil))) (gdName 1)) (dSeq (dFor (dRng1 (dCons (dOp (fAdd false) (dC (.int 5)) (dCB fMin (dCons (dCB fLen (dCons (dVar 0) (dNil))) (dCons (dC (.int 20)) (dNil))))) (dNil))) (gdName 2) (dSeq (dAsg (dCall 3 F__law_chain (dCons (dVar 1) (dCons (dC (.int 1)) (dCons (dC (.int 8)) (dNil))))) (gdName 3)) (dSeq (dAsg (dCB fRep (dCons (dVar 3) (dNil))) (gdName 4)) (dSeq (dFor (dRng1 (dCons (dC (.int 6)) (dNil))) (gdName 5) (dSeq (dAsg (dCall 3 F__law_plan (dCons (dVar 1) (dCons (dC (.int 0)) (dCons (dOp fSubI (dCB fLen (dCons (dVar 3) (dNil))) (dC (.int 1))) (dNil))))) (gdName 6)) (dSeq (dAsg (dOp fIx (dCall 2 F__law_worth (dCons (dVar 3) (dCons (dVar 6) (dNil)))) (dC (.int 0))) (gdName 7)) (dSeq (dAsg (dLst false (dCons (dCall 2 F_cost (dCons (dVar 3) (dCons (dVar 6) (dNil)))) (dCons (dCall 2 F_cost (dCons (dCB fTupOf (dCons (dVar 3) (dNil))) (dCons (dVar 6) (dNil)))) (dCons (dCallN 0 2 ([.k 1, .k 0]) F_cost (dNil) (dCons (dVar 6) (dCons (dVar 3) (dNil)))) (dNil))))) (gdName 8)) (dSeq (dIfS (dB (dOp (fEq true) (dCB fRep (dCons (dVar 8) (dNil))) (dCB fRep (dCons (dOp (fMul false) (dLst false (dCons (dVar 7) (dNil))) (dC (.int 3))) (dNil))))) (dRet (dC (.bl false))) (dNext)) (dIfS (dB (dOp (fB fun i j => decide (i > j)) (dOp fIx (dCall 1 F_cheapest (dCons (dVar 3) (dNil))) (dC (.int 0))) (dVar 7))) (dRet (dC (.bl false))) (dNext))))))) (dIfS (dOr (dB (dOp (fEq true) (dCB fRep (dCons (dVar 3) (dNil))) (dVar 4))) (dB (dOp (fEq true) (dCall 2 F_cost (dCons (dLst false (dCons (dOp fIx (dVar 3) (dC (.int 0))) (dNil))) (dCons (dC (.int 0)) (dNil)))) (dC (.int 0))))) (dRet (dC (.bl false))) (dNext)))))) (dRet (dC (.bl true))))
def F_law : FD := bodyF 9 u_law
--WALKS--
section
variable {P : Program} {w : World} {K : PySem.W.Frag} {mg : Str → Option Value} {base : Heap} {CA : CAs} {f : Addr} {fd : FuncData}
theorem sc__law_begun : FnScope ["_law_script", "_law_wide", "_law_cell"] ["_law_script"] (defScope s__law_begun) := ⟨rfl, rfl, rfl, by decide +kernel, rfl, by decide +kernel, by decide +kernel⟩
theorem ok__law_begun  (F : Fun K "_law_begun" "_law_begun" s__law_begun f fd) (T : Txt mg) (SMb : SM base) (C : Cst K CA mg) (Kt : KtOk K CA [] ktB)  : FnG P w K mg base false 1 f fd ["_law_script"] (spD K CA 1 (bodyF 3 u__law_begun)) := by
  have nd := (sc__law_begun).nd
  refine okD F sc__law_begun rfl rfl fun cd A outer s H E hg hr tk => ?_
  have Y : WSs (cxD P w K mg base ["_law_script", "_law_wide", "_law_cell"] "_law_begun" s__law_begun f cd A outer s H E) K CA (wxD E) (defBody s__law_begun) _ _ := wss_cons (ws_setLc true (i := 1) rfl nd rfl rfl (own := [("_law_cell", 2)]) (wi_seq (we_var (pv 0))) (blkOk_by (N := ["_law_script", "_law_wide", "_law_cell"]) (sc := defScope s__law_begun) (by decide +kernel)) (fun s H C cl fp => wg_name (pg_name (i := 2) nd rfl (by first | exact Or.inl rfl | exact Or.inr rfl))) (fun s H C cl fp => wts_one (wt_cmp op_ge sim_cB (we_cb sim_abs (wa_cons (we_var (pv 2)) (wa_nil)) (fun a => pe_callB call_abs (by rfl) T.z_abs boot_absU a)) (we_op op_pow sim_pow (we_int) (we_int)) (by rfl))) (fun s H C cl fp => we_op op_sub sim_subI (we_cb sim_abs (wa_cons (we_var (pv 2)) (wa_nil)) (fun a => pe_callB call_abs (by rfl) T.z_abs boot_absU a)) (we_op op_pow sim_pow (we_int) (we_int))) (by decide)) (wss_one (ws_ret (we_disp true (wp_cons (we_str) (we_var (pv 1)) (wp_cons (we_str) (we_lc false rfl nd (own := [("_law_cell", 2)]) (wi_seq (we_var (pv 0))) (blkOk_by (N := ["_law_script", "_law_wide", "_law_cell"]) (sc := defScope s__law_begun) (by decide +kernel)) (fun s H C cl fp => wg_name (pg_name (i := 2) nd rfl (by first | exact Or.inl rfl | exact Or.inr rfl))) (fun s H C cl fp => wts_nil) (fun s H C cl fp => we_op op_mod sim_mod (we_cb sim_int (wa_cons (we_cb sim_abs (wa_cons (we_var (pv 2)) (wa_nil)) (fun a => pe_callB call_abs (by rfl) T.z_abs boot_absU a)) (wa_nil)) (fun a => pe_callTy call_int1 (by rfl) T.z_int boot_intU a)) (we_int)) (by decide)) (wp_cons (we_str) (we_int) (wp_cons (we_str) (we_int) (wp_nil))))) (by rfl) (by rfl) (by decide) (by decide))))
  exact ⟨_, Y⟩
theorem sc__law_mixed : FnScope ["_law_draw", "_law_turn", "_law_found", "_law_prime", "_law_blend", "_law_cell"] ["_law_draw"] (defScope s__law_mixed) := ⟨rfl, rfl, rfl, by decide +kernel, rfl, by decide +kernel, by decide +kernel⟩
theorem ok__law_mixed  (F : Fun K "_law_mixed" "_law_mixed" s__law_mixed f fd) (T : Txt mg) (SMb : SM base) (C : Cst K CA mg) (Kt : KtOk K CA [] ktB)  : FnG P w K mg base false 1 f fd ["_law_draw"] (spD K CA 1 (bodyF 6 u__law_mixed)) := by
  have nd := (sc__law_mixed).nd
  refine okD F sc__law_mixed rfl rfl fun cd A outer s H E hg hr tk => ?_
  have Y : WSs (cxD P w K mg base ["_law_draw", "_law_turn", "_law_found", "_law_prime", "_law_blend", "_law_cell"] "_law_mixed" s__law_mixed f cd A outer s H E) K CA (wxD E) (defBody s__law_mixed) _ _ := wss_cons (ws_par (wa_cons (we_op op_addU (sim_add (nm := false)) (we_ix (ixU (hu_of hr)) sim_ix (we_var (pv 0)) (we_str)) (we_int)) (wa_cons (we_int) (wa_nil))) (fun q => ps_par (i := 1) (j := 2) rfl nd rfl rfl (by decide) rfl rfl q (by rfl))) (wss_cons (ws_asg (we_var (pv 1)) (wg_sub (W := wxD E) (hu_of hr) (we_var (pv 0)) (we_str) (fun a b c => pg_sub a b c))) (wss_cons (ws_for (wi_seq (we_lst false (wa_cons (we_int) (wa_cons (we_int) (wa_cons (we_int) (wa_cons (we_int) (wa_nil))))))) (wg_name (pg_name (i := 3) nd rfl (by first | exact Or.inl rfl | exact Or.inr rfl))) (wss_cons (ws_set (we_op op_addU (sim_add (nm := false)) (we_op op_mulU (sim_mul (nm := false)) (we_int) (we_var (pv 1))) (we_op op_fdiv sim_div (we_var (pv 3)) (we_int))) (fun q => ps_set (i := 4) nd rfl (by first | exact Or.inl rfl | exact Or.inr rfl) q)) (wss_cons (ws_for (wi_seq (we_ix (ixU (hu_of hr)) sim_ix (we_var (pv 0)) (we_str))) (wg_name (pg_name (i := 5) nd rfl (by first | exact Or.inl rfl | exact Or.inr rfl))) (wss_one (ws_set (we_op op_mod sim_mod (we_cb sim_int (wa_cons (we_op op_addU (sim_add (nm := false)) (we_op op_addU (sim_add (nm := false)) (we_op op_mulU (sim_mul (nm := false)) (we_var (pv 4)) (we_int)) (we_var (pv 5))) (we_var (pv 1))) (wa_nil)) (fun a => pe_callTy call_int1 (by rfl) T.z_int boot_intU a)) (we_var (pv 3))) (fun q => ps_set (i := 4) nd rfl (by first | exact Or.inl rfl | exact Or.inr rfl) q))) (fun i g b => ps_for (passes_of rfl) rfl i g b)) (wss_one (ws_set (we_op op_addU (sim_add (nm := false)) (we_op op_mulU (sim_mul (nm := false)) (we_var (pv 2)) (we_int)) (we_op op_mod sim_mod (we_cb sim_int (wa_cons (we_op op_pow sim_pow (we_var (pv 4)) (we_int)) (wa_nil)) (fun a => pe_callTy call_int1 (by rfl) T.z_int boot_intU a)) (we_var (pv 3)))) (fun q => ps_set (i := 2) nd rfl (by first | exact Or.inl rfl | exact Or.inr rfl) q))))) (fun i g b => ps_for (passes_of rfl) rfl i g b)) (wss_one (ws_ret (we_var (pv 2))))))
  exact ⟨_, Y⟩
theorem sc__law_take : FnScope ["_law_draw", "_law_size", "_law_found"] ["_law_draw", "_law_size"] (defScope s__law_take) := ⟨rfl, rfl, rfl, by decide +kernel, rfl, by decide +kernel, by decide +kernel⟩
theorem ok__law_take {f__law_mixed : Addr} {fd__law_mixed : FuncData} (F : Fun K "_law_take" "_law_take" s__law_take f fd) (T : Txt mg) (SMb : SM base) (C : Cst K CA mg) (Kt : KtOk K CA [] ktB) (B__law_mixed_1 : KwB K CA fd__law_mixed ["_law_draw"] 1 [] (srcP 0 1)) (D__law_mixed : Df P w K mg base CA "_law_mixed" false 1 ["_law_draw"] F__law_mixed f__law_mixed fd__law_mixed) : FnG P w K mg base false 2 f fd ["_law_draw", "_law_size"] (spD K CA 2 (bodyF 3 u__law_take)) := by
  have nd := (sc__law_take).nd
  refine okD F sc__law_take rfl rfl fun cd A outer s H E hg hr tk => ?_
  have Y : WSs (cxD P w K mg base ["_law_draw", "_law_size", "_law_found"] "_law_take" s__law_take f cd A outer s H E) K CA (wxD E) (defBody s__law_take) _ _ := wss_cons (ws_if (wt_cmp (op_eqU hr.units) sim_eq (we_ix (ixU (hu_of hr)) sim_ix (we_var (pv 0)) (we_str)) (we_int) (by rfl)) (wss_one (ws_asg (we_ifExp (wt_cmp (op_neU hr.units) sim_ne (we_ix (ixU (hu_of hr)) sim_ix (we_var (pv 0)) (we_str)) (we_lst false (wa_nil)) (by rfl)) (we_bm (T := "list") (r := rPopAt) sim_popAt (we_ix (ixU (hu_of hr)) sim_ix (we_var (pv 0)) (we_str)) (wa_cons (we_int) (wa_nil)) (fun a b => pe_bm PySem.F.plainAttrs_list PySem.F.slot_list_pop PySem.F.type_list_pop mt_popAt a b)) (we_callP D__law_mixed noG (hr.mono (by decide)) tk (wa_cons (we_var (pv 0)) (wa_nil)) B__law_mixed_1)) (wg_sub (W := wxD E) (hu_of hr) (we_var (pv 0)) (we_str) (fun a b c => pg_sub a b c)))) (wss_nil)) (wss_cons (ws_set (we_op op_mod sim_mod (we_cb sim_int (wa_cons (we_ix (ixU (hu_of hr)) sim_ix (we_var (pv 0)) (we_str)) (wa_nil)) (fun a => pe_callTy call_int1 (by rfl) T.z_int boot_intU a)) (we_var (pv 1))) (fun q => ps_set (i := 2) nd rfl (by first | exact Or.inl rfl | exact Or.inr rfl) q)) (wss_cons (ws_asg (we_op op_fdiv sim_div (we_ix (ixU (hu_of hr)) sim_ix (we_var (pv 0)) (we_str)) (we_var (pv 1))) (wg_sub (W := wxD E) (hu_of hr) (we_var (pv 0)) (we_str) (fun a b c => pg_sub a b c))) (wss_one (ws_ret (we_var (pv 2))))))
  exact ⟨_, Y⟩
theorem sc__law_pick : FnScope ["_law_draw", "_law_some"] ["_law_draw", "_law_some"] (defScope s__law_pick) := ⟨rfl, rfl, rfl, by decide +kernel, rfl, by decide +kernel, by decide +kernel⟩
theorem ok__law_pick {f__law_take : Addr} {fd__law_take : FuncData} (F : Fun K "_law_pick" "_law_pick" s__law_pick f fd) (T : Txt mg) (SMb : SM base) (C : Cst K CA mg) (Kt : KtOk K CA [] ktB) (B__law_take_2 : KwB K CA fd__law_take ["_law_draw", "_law_size"] 2 [] (srcP 0 2)) (D__law_take : Df P w K mg base CA "_law_take" false 2 ["_law_draw", "_law_size"] F__law_take f__law_take fd__law_take) : FnG P w K mg base false 3 f fd ["_law_draw", "_law_some"] (spD K CA 2 (bodyF 2 u__law_pick)) := by
  have nd := (sc__law_pick).nd
  refine okD F sc__law_pick rfl rfl fun cd A outer s H E hg hr tk => ?_
  have Y : WSs (cxD P w K mg base ["_law_draw", "_law_some"] "_law_pick" s__law_pick f cd A outer s H E) K CA (wxD E) (defBody s__law_pick) _ _ := wss_one (ws_ret (we_ix (ixU (hu_of hr)) sim_ix (we_var (pv 1)) (we_callP D__law_take noG (hr.mono (by decide)) tk (wa_cons (we_var (pv 0)) (wa_cons (we_cb sim_len (wa_cons (we_var (pv 1)) (wa_nil)) (fun a => pe_callB (call_lenU rfl call_lenRd) (by rfl) T.z_len boot_lenU a)) (wa_nil))) B__law_take_2)))
  exact ⟨_, Y⟩
theorem sc__law_owned : FnScope ["_law_draw", "_law_most", "_law_way", "_law_cell"] ["_law_draw", "_law_most"] (defScope s__law_owned) := ⟨rfl, rfl, rfl, by decide +kernel, rfl, by decide +kernel, by decide +kernel⟩
theorem ok__law_owned {f__law_take : Addr} {fd__law_take : FuncData} (F : Fun K "_law_owned" "_law_owned" s__law_owned f fd) (T : Txt mg) (SMb : SM base) (C : Cst K CA mg) (Kt : KtOk K CA [] ktB) (B__law_take_2 : KwB K CA fd__law_take ["_law_draw", "_law_size"] 2 [] (srcP 0 2)) (D__law_take : Df P w K mg base CA "_law_take" false 2 ["_law_draw", "_law_size"] F__law_take f__law_take fd__law_take) : FnG P w K mg base false 3 f fd ["_law_draw", "_law_most"] (spD K CA 2 (bodyF 4 u__law_owned)) := by
  have nd := (sc__law_owned).nd
  refine okD F sc__law_owned rfl rfl fun cd A outer s H E hg hr tk => ?_
  have Y : WSs (cxD P w K mg base ["_law_draw", "_law_most", "_law_way", "_law_cell"] "_law_owned" s__law_owned f cd A outer s H E) K CA (wxD E) (defBody s__law_owned) _ _ := wss_cons (ws_set (we_callP D__law_take noG (hr.mono (by decide)) tk (wa_cons (we_var (pv 0)) (wa_cons (we_int) (wa_nil))) B__law_take_2) (fun q => ps_set (i := 2) nd rfl (by first | exact Or.inl rfl | exact Or.inr rfl) q)) (wss_cons (ws_if (wt_cmp (op_eqU hr.units) sim_eq (we_var (pv 2)) (we_int) (by rfl)) (wss_one (ws_ret (we_tup (wa_nil)))) (wss_nil)) (wss_cons (ws_if (wt_cmp (op_eqU hr.units) sim_eq (we_var (pv 2)) (we_int) (by rfl)) (wss_one (ws_ret (we_tupR (we_var (pv 1)) T.z_tuple T.z_range))) (wss_nil)) (wss_one (ws_ret (we_cb sim_tupOf (wa_cons (we_lc false rfl nd (own := [("_law_cell", 3)]) (wi_rng1 (wa_cons (we_var (pv 1)) (wa_nil)) (fun a => pi_range1 (by rfl) T.z_range a)) (blkOk_by (N := ["_law_draw", "_law_most", "_law_way", "_law_cell"]) (sc := defScope s__law_owned) (by decide +kernel)) (fun s H C cl fp => wg_name (pg_name (i := 3) nd rfl (by first | exact Or.inl rfl | exact Or.inr rfl))) (fun s H C cl fp => wts_one (wt_cmp (op_eqU hr.units) sim_eq (we_callP D__law_take noG (hr.mono (by decide)) takes0 (wa_cons (we_var (pv 0)) (wa_cons (we_ifExp (wt_cmp op_lt sim_cB (we_var (pv 2)) (we_int) (by rfl)) (we_int) (we_int)) (wa_nil))) B__law_take_2) (we_int) (by rfl))) (fun s H C cl fp => we_var (pv 3)) (by decide)) (wa_nil)) (fun a => pe_callTy call_tupOf (by rfl) T.z_tuple boot_tupleU a))))))
  exact ⟨_, Y⟩
theorem sc__law_chain : FnScope ["_law_draw", "_law_least", "_law_most", "_law_cells", "_law_turn"] ["_law_draw", "_law_least", "_law_most"] (defScope s__law_chain) := ⟨rfl, rfl, rfl, by decide +kernel, rfl, by decide +kernel, by decide +kernel⟩
theorem ok__law_chain {f__law_pick : Addr} {fd__law_pick : FuncData} {f__law_take : Addr} {fd__law_take : FuncData} {f__law_owned : Addr} {fd__law_owned : FuncData} (F : Fun K "_law_chain" "_law_chain" s__law_chain f fd) (T : Txt mg) (SMb : SM base) (C : Cst K CA mg) (Kt : KtOk K CA [] ktB) (B__law_pick_2 : KwB K CA fd__law_pick ["_law_draw", "_law_some"] 2 [] (srcP 0 2)) (D__law_pick : Df P w K mg base CA "_law_pick" false 3 ["_law_draw", "_law_some"] F__law_pick f__law_pick fd__law_pick) (B__law_take_2 : KwB K CA fd__law_take ["_law_draw", "_law_size"] 2 [] (srcP 0 2)) (D__law_take : Df P w K mg base CA "_law_take" false 2 ["_law_draw", "_law_size"] F__law_take f__law_take fd__law_take) (B__law_owned_2 : KwB K CA fd__law_owned ["_law_draw", "_law_most"] 2 [] (srcP 0 2)) (D__law_owned : Df P w K mg base CA "_law_owned" false 3 ["_law_draw", "_law_most"] F__law_owned f__law_owned fd__law_owned) : FnG P w K mg base false 4 f fd ["_law_draw", "_law_least", "_law_most"] (spD K CA 3 (bodyF 5 u__law_chain)) := by
  have nd := (sc__law_chain).nd
  refine okD F sc__law_chain rfl rfl fun cd A outer s H E hg hr tk => ?_
  have Y : WSs (cxD P w K mg base ["_law_draw", "_law_least", "_law_most", "_law_cells", "_law_turn"] "_law_chain" s__law_chain f cd A outer s H E) K CA (wxD E) (defBody s__law_chain) _ _ := wss_cons (ws_set (we_callP D__law_pick noG (hr.mono (by decide)) tk (wa_cons (we_var (pv 0)) (wa_cons (we_lst false (wa_cons (we_int) (wa_cons (we_int) (wa_cons (we_int) (wa_cons (we_int) (wa_nil)))))) (wa_nil))) B__law_pick_2) (fun q => ps_set (i := 3) nd rfl (by first | exact Or.inl rfl | exact Or.inr rfl) q)) (wss_one (ws_ret (we_lc false rfl nd (own := [("_law_turn", 4)]) (wi_rng1 (wa_cons (we_op op_addU (sim_add (nm := false)) (we_var (pv 1)) (we_callP D__law_take noG (hr.mono (by decide)) tk (wa_cons (we_var (pv 0)) (wa_cons (we_op op_addU (sim_add (nm := false)) (we_op op_sub sim_subI (we_var (pv 2)) (we_var (pv 1))) (we_int)) (wa_nil))) B__law_take_2)) (wa_nil)) (fun a => pi_range1 (by rfl) T.z_range a)) (blkOk_by (N := ["_law_draw", "_law_least", "_law_most", "_law_cells", "_law_turn"]) (sc := defScope s__law_chain) (by decide +kernel)) (fun s H C cl fp => wg_name (pg_name (i := 4) nd rfl (by first | exact Or.inl rfl | exact Or.inr rfl))) (fun s H C cl fp => wts_nil) (fun s H C cl fp => we_callP D__law_owned noG (hr.mono (by decide)) takes0 (wa_cons (we_var (pv 0)) (wa_cons (we_var (pv 3)) (wa_nil))) B__law_owned_2) (by decide))))
  exact ⟨_, Y⟩
theorem sc__law_plan : FnScope ["_law_draw", "_law_first", "_law_last", "_law_middle", "_law_kind"] ["_law_draw", "_law_first", "_law_last"] (defScope s__law_plan) := ⟨rfl, rfl, rfl, by decide +kernel, rfl, by decide +kernel, by decide +kernel⟩
theorem ok__law_plan {f__law_take : Addr} {fd__law_take : FuncData} {f__law_pick : Addr} {fd__law_pick : FuncData} {f__law_plan : Addr} {fd__law_plan : FuncData} (j : Nat) {R_ : FD} (F : Fun K "_law_plan" "_law_plan" s__law_plan f fd) (T : Txt mg) (SMb : SM base) (C : Cst K CA mg) (Kt : KtOk K CA [] ktB) (B__law_take_2 : KwB K CA fd__law_take ["_law_draw", "_law_size"] 2 [] (srcP 0 2)) (D__law_take : Df P w K mg base CA "_law_take" false 2 ["_law_draw", "_law_size"] F__law_take f__law_take fd__law_take) (B__law_pick_2 : KwB K CA fd__law_pick ["_law_draw", "_law_some"] 2 [] (srcP 0 2)) (D__law_pick : Df P w K mg base CA "_law_pick" false 3 ["_law_draw", "_law_some"] F__law_pick f__law_pick fd__law_pick) (B__law_plan_3 : KwB K CA fd__law_plan ["_law_draw", "_law_first", "_law_last"] 3 [] (srcP 0 3)) (D__law_plan : Df P w K mg base CA "_law_plan" false (3 + j) ["_law_draw", "_law_first", "_law_last"] R_ f__law_plan fd__law_plan) : FnG P w K mg base false (3 + j + 1) f fd ["_law_draw", "_law_first", "_law_last"] (spD K CA 3 (bodyF 5 (u__law_plan R_))) := by
  have nd := (sc__law_plan).nd
  refine okD F sc__law_plan rfl rfl fun cd A outer s H E hg hr tk => ?_
  have Y : WSs (cxD P w K mg base ["_law_draw", "_law_first", "_law_last", "_law_middle", "_law_kind"] "_law_plan" s__law_plan f cd A outer s H E) K CA (wxD E) (defBody s__law_plan) _ _ := wss_cons (ws_if (wt_cmp (op_eqU hr.units) sim_eq (we_var (pv 1)) (we_var (pv 2)) (by rfl)) (wss_one (ws_ret (we_var (pv 1)))) (wss_nil)) (wss_cons (ws_set (we_op op_addU (sim_add (nm := false)) (we_var (pv 1)) (we_callP D__law_take noG (hr.mono (by omega)) tk (wa_cons (we_var (pv 0)) (wa_cons (we_op op_sub sim_subI (we_var (pv 2)) (we_var (pv 1))) (wa_nil))) B__law_take_2)) (fun q => ps_set (i := 3) nd rfl (by first | exact Or.inl rfl | exact Or.inr rfl) q)) (wss_cons (ws_set (we_callP D__law_pick noG (hr.mono (by omega)) tk (wa_cons (we_var (pv 0)) (wa_cons (we_lst false (wa_cons (we_str) (wa_cons (we_str) (wa_nil)))) (wa_nil))) B__law_pick_2) (fun q => ps_set (i := 4) nd rfl (by first | exact Or.inl rfl | exact Or.inr rfl) q)) (wss_one (ws_ret (we_tup (wa_cons (we_var (pv 4)) (wa_cons (we_callP D__law_plan noG (hr.mono (by omega)) tk (wa_cons (we_var (pv 0)) (wa_cons (we_var (pv 1)) (wa_cons (we_var (pv 3)) (wa_nil)))) B__law_plan_3) (wa_cons (we_callP D__law_plan noG (hr.mono (by omega)) tk (wa_cons (we_var (pv 0)) (wa_cons (we_op op_addU (sim_add (nm := false)) (we_var (pv 3)) (we_int)) (wa_cons (we_var (pv 2)) (wa_nil)))) B__law_plan_3) (wa_nil)))))))))
  exact ⟨_, Y⟩
theorem sc__law_is_cell : FnScope ["_law_thing"] ["_law_thing"] (defScope s__law_is_cell) := ⟨rfl, rfl, rfl, by decide +kernel, rfl, by decide +kernel, by decide +kernel⟩
theorem ok__law_is_cell  (F : Fun K "_law_is_cell" "_law_is_cell" s__law_is_cell f fd) (T : Txt mg) (SMb : SM base) (C : Cst K CA mg) (Kt : KtOk K CA [] ktB)  : FnG P w K mg base false 1 f fd ["_law_thing"] (spD K CA 1 (bodyF 1 u__law_is_cell)) := by
  have nd := (sc__law_is_cell).nd
  refine okD F sc__law_is_cell rfl rfl fun cd A outer s H E hg hr tk => ?_
  have Y : WSs (cxD P w K mg base ["_law_thing"] "_law_is_cell" s__law_is_cell f cd A outer s H E) K CA (wxD E) (defBody s__law_is_cell) _ _ := wss_one (ws_ret (we_and (we_cb (sim_isi Kt) (wa_cons (we_var (pv 0)) (wa_cons (we_ty (pe_bltn (by rfl) T.z_int boot_intU rfl)) (wa_nil))) (fun a => pe_callB call_isiU (by rfl) T.z_isinstance boot_isinstanceU a)) (we_and (we_not (we_cb (sim_isi Kt) (wa_cons (we_var (pv 0)) (wa_cons (we_ty (pe_bltn (by rfl) T.z_bool boot_boolU rfl)) (wa_nil))) (fun a => pe_callB call_isiU (by rfl) T.z_isinstance boot_isinstanceU a))) (we_one (we_cmp op_ge sim_cB (we_var (pv 0)) (we_int) (by rfl))))))
  exact ⟨_, Y⟩
theorem sc__law_worth : FnScope ["_law_chain_of", "_law_plan_of", "_law_kind", "_law_lower", "_law_upper", "_law_low", "_law_high", "_law_more", "_law_cell"] ["_law_chain_of", "_law_plan_of"] (defScope s__law_worth) := ⟨rfl, rfl, rfl, by decide +kernel, rfl, by decide +kernel, by decide +kernel⟩
theorem ok__law_worth {f__law_is_cell : Addr} {fd__law_is_cell : FuncData} {f__law_worth : Addr} {fd__law_worth : FuncData} (j : Nat) {R_ : FD} (F : Fun K "_law_worth" "_law_worth" s__law_worth f fd) (T : Txt mg) (SMb : SM base) (C : Cst K CA mg) (Kt : KtOk K CA [] ktB) (B__law_is_cell_1 : KwB K CA fd__law_is_cell ["_law_thing"] 1 [] (srcP 0 1)) (D__law_is_cell : Df P w K mg base CA "_law_is_cell" false 1 ["_law_thing"] F__law_is_cell f__law_is_cell fd__law_is_cell) (B__law_worth_2 : KwB K CA fd__law_worth ["_law_chain_of", "_law_plan_of"] 2 [] (srcP 0 2)) (D__law_worth : Df P w K mg base CA "_law_worth" false (1 + j) ["_law_chain_of", "_law_plan_of"] R_ f__law_worth fd__law_worth) : FnG P w K mg base false (1 + j + 1) f fd ["_law_chain_of", "_law_plan_of"] (spD K CA 2 (bodyF 9 (u__law_worth R_))) := by
  have nd := (sc__law_worth).nd
  refine okD F sc__law_worth rfl rfl fun cd A outer s H E hg hr tk => ?_
  have Y : WSs (cxD P w K mg base ["_law_chain_of", "_law_plan_of", "_law_kind", "_law_lower", "_law_upper", "_law_low", "_law_high", "_law_more", "_law_cell"] "_law_worth" s__law_worth f cd A outer s H E) K CA (wxD E) (defBody s__law_worth) _ _ := wss_cons (ws_if (wt_val (we_callP D__law_is_cell noG (hr.mono (by omega)) tk (wa_cons (we_var (pv 1)) (wa_nil)) B__law_is_cell_1)) (wss_one (ws_ret (we_tup (wa_cons (we_int) (wa_cons (we_cb (sim_listOf (nm := false)) (wa_cons (we_ix (ixU (hu_of hr)) sim_ix (we_var (pv 0)) (we_var (pv 1))) (wa_nil)) (fun a => pe_callTy call_listOf (by rfl) T.z_list boot_listU a)) (wa_nil)))))) (wss_nil)) (wss_cons (ws_asg (we_var (pv 1)) (wg_tup (n := 3) rfl (wgs_cons (wg_name (pg_name (i := 2) nd rfl (by first | exact Or.inl rfl | exact Or.inr rfl))) (wgs_cons (wg_name (pg_name (i := 3) nd rfl (by first | exact Or.inl rfl | exact Or.inr rfl))) (wgs_cons (wg_name (pg_name (i := 4) nd rfl (by first | exact Or.inl rfl | exact Or.inr rfl))) (wgs_nil)))))) (wss_cons (ws_asg (we_tup (wa_cons (we_callP D__law_worth noG (hr.mono (by omega)) tk (wa_cons (we_var (pv 0)) (wa_cons (we_var (pv 3)) (wa_nil))) B__law_worth_2) (wa_cons (we_callP D__law_worth noG (hr.mono (by omega)) tk (wa_cons (we_var (pv 0)) (wa_cons (we_var (pv 4)) (wa_nil))) B__law_worth_2) (wa_nil)))) (wg_tup (n := 2) rfl (wgs_cons (wg_name (pg_name (i := 5) nd rfl (by first | exact Or.inl rfl | exact Or.inr rfl))) (wgs_cons (wg_name (pg_name (i := 6) nd rfl (by first | exact Or.inl rfl | exact Or.inr rfl))) (wgs_nil))))) (wss_cons (ws_set (we_ifExp (wt_cmp (op_eqU hr.units) sim_eq (we_var (pv 2)) (we_str) (by rfl)) (we_cb sim_len (wa_cons (we_ix (ixU (hu_of hr)) sim_ix (we_var (pv 6)) (we_int)) (wa_nil)) (fun a => pe_callB (call_lenU rfl call_lenRd) (by rfl) T.z_len boot_lenU a)) (we_cb sim_len (wa_cons (we_lc false rfl nd (own := [("_law_cell", 8)]) (wi_seq (we_ix (ixU (hu_of hr)) sim_ix (we_var (pv 5)) (we_int))) (blkOk_by (N := ["_law_chain_of", "_law_plan_of", "_law_kind", "_law_lower", "_law_upper", "_law_low", "_law_high", "_law_more", "_law_cell"]) (sc := defScope s__law_worth) (by decide +kernel)) (fun s H C cl fp => wg_name (pg_name (i := 8) nd rfl (by first | exact Or.inl rfl | exact Or.inr rfl))) (fun s H C cl fp => wts_one (wt_cmp (op_notInU (hu_of hr)) (sim_in (neg := true)) (we_var (pv 8)) (we_ix (ixU (hu_of hr)) sim_ix (we_var (pv 6)) (we_int)) (by rfl))) (fun s H C cl fp => we_var (pv 8)) (by decide)) (wa_nil)) (fun a => pe_callB (call_lenU rfl call_lenRd) (by rfl) T.z_len boot_lenU a))) (fun q => ps_set (i := 7) nd rfl (by first | exact Or.inl rfl | exact Or.inr rfl) q)) (wss_one (ws_ret (we_tup (wa_cons (we_op op_addU (sim_add (nm := false)) (we_op op_addU (sim_add (nm := false)) (we_ix (ixU (hu_of hr)) sim_ix (we_var (pv 5)) (we_int)) (we_ix (ixU (hu_of hr)) sim_ix (we_var (pv 6)) (we_int))) (we_var (pv 7))) (wa_cons (we_sortSet false (we_op op_addU (sim_add (nm := false)) (we_ix (ixU (hu_of hr)) sim_ix (we_var (pv 5)) (we_int)) (we_ix (ixU (hu_of hr)) sim_ix (we_var (pv 6)) (we_int))) T.z_sorted T.z_set) (wa_nil)))))))))
  exact ⟨_, Y⟩
theorem sc_is_cell : FnScope ["thing"] ["thing"] (defScope s_is_cell) := ⟨rfl, rfl, rfl, by decide +kernel, rfl, by decide +kernel, by decide +kernel⟩
theorem ok_is_cell  (F : Fun K "is_cell" "is_cell" s_is_cell f fd) (T : Txt mg) (SMb : SM base) (C : Cst K CA mg) (Kt : KtOk K CA [] ktB)  : FnG P w K mg base false 1 f fd ["thing"] (spD K CA 1 (bodyF 1 u_is_cell)) := by
  have nd := (sc_is_cell).nd
  refine okD F sc_is_cell rfl rfl fun cd A outer s H E hg hr tk => ?_
  have Y : WSs (cxD P w K mg base ["thing"] "is_cell" s_is_cell f cd A outer s H E) K CA (wxD E) (defBody s_is_cell) _ _ := wss_one (ws_ret (we_and (we_cb (sim_isi Kt) (wa_cons (we_var (pv 0)) (wa_cons (we_ty (pe_bltn (by rfl) T.z_int boot_intU rfl)) (wa_nil))) (fun a => pe_callB call_isiU (by rfl) T.z_isinstance boot_isinstanceU a)) (we_and (we_not (we_cb (sim_isi Kt) (wa_cons (we_var (pv 0)) (wa_cons (we_ty (pe_bltn (by rfl) T.z_bool boot_boolU rfl)) (wa_nil))) (fun a => pe_callB call_isiU (by rfl) T.z_isinstance boot_isinstanceU a))) (we_one (we_cmp op_ge sim_cB (we_var (pv 0)) (we_int) (by rfl))))))
  exact ⟨_, Y⟩
theorem sc_is_owned : FnScope ["thing", "cell"] ["thing"] (defScope s_is_owned) := ⟨rfl, rfl, rfl, by decide +kernel, rfl, by decide +kernel, by decide +kernel⟩
theorem ok_is_owned {f_is_cell : Addr} {fd_is_cell : FuncData} (F : Fun K "is_owned" "is_owned" s_is_owned f fd) (T : Txt mg) (SMb : SM base) (C : Cst K CA mg) (Kt : KtOk K CA [] ktB) (B_is_cell_1 : KwB K CA fd_is_cell ["thing"] 1 [] (srcP 0 1)) (D_is_cell : Df P w K mg base CA "is_cell" false 1 ["thing"] F_is_cell f_is_cell fd_is_cell) : FnG P w K mg base false 2 f fd ["thing"] (spD K CA 1 (bodyF 2 u_is_owned)) := by
  have nd := (sc_is_owned).nd
  refine okD F sc_is_owned rfl rfl fun cd A outer s H E hg hr tk => ?_
  have Y : WSs (cxD P w K mg base ["thing", "cell"] "is_owned" s_is_owned f cd A outer s H E) K CA (wxD E) (defBody s_is_owned) _ _ := wss_cons (ws_if ((ww_or (wt_not (wt_val (we_cb (sim_isi Kt) (wa_cons (we_var (pv 0)) (wa_cons (we_ty (pe_bltn (by rfl) T.z_tuple boot_tupleU rfl)) (wa_nil))) (fun a => pe_callB call_isiU (by rfl) T.z_isinstance boot_isinstanceU a)))) (ww_or1 (wt_not (wt_val (we_cb sim_all (wa_cons (we_lc false rfl nd (own := [("cell", 1)]) (wi_seq (we_var (pv 0))) (blkOk_by (N := ["thing", "cell"]) (sc := defScope s_is_owned) (by decide +kernel)) (fun s H C cl fp => wg_name (pg_name (i := 1) nd rfl (by first | exact Or.inl rfl | exact Or.inr rfl))) (fun s H C cl fp => wts_nil) (fun s H C cl fp => we_callP D_is_cell noG (hr.mono (by decide)) takes0 (wa_cons (we_var (pv 1)) (wa_nil)) B_is_cell_1) (by decide)) (wa_nil)) (fun a => pe_callB call_allU (by rfl) T.z_all boot_allU a)))))).wt) (wss_one (ws_ret (we_bl))) (wss_nil)) (wss_one (ws_ret (we_cmp (op_eqU hr.units) sim_eq (we_cb (sim_listOf (nm := false)) (wa_cons (we_var (pv 0)) (wa_nil)) (fun a => pe_callTy call_listOf (by rfl) T.z_list boot_listU a)) (we_sortSet false (we_var (pv 0)) T.z_sorted T.z_set) (by rfl))))
  exact ⟨_, Y⟩
theorem sc_need_chain : FnScope ["chain", "owned"] ["chain"] (defScope s_need_chain) := ⟨rfl, rfl, rfl, by decide +kernel, rfl, by decide +kernel, by decide +kernel⟩
theorem ok_need_chain {f_is_owned : Addr} {fd_is_owned : FuncData} (F : Fun K "need_chain" "need_chain" s_need_chain f fd) (T : Txt mg) (SMb : SM base) (C : Cst K CA mg) (Kt : KtOk K CA [] ktB) (B_is_owned_1 : KwB K CA fd_is_owned ["thing"] 1 [] (srcP 0 1)) (D_is_owned : Df P w K mg base CA "is_owned" false 2 ["thing"] F_is_owned f_is_owned fd_is_owned) : FnG P w K mg base false 3 f fd ["chain"] (spD K CA 1 (bodyF 2 u_need_chain)) := by
  have nd := (sc_need_chain).nd
  refine okD F sc_need_chain rfl rfl fun cd A outer s H E hg hr tk => ?_
  have Y : WSs (cxD P w K mg base ["chain", "owned"] "need_chain" s_need_chain f cd A outer s H E) K CA (wxD E) (defBody s_need_chain) _ _ := wss_cons (ws_if ((ww_or (wt_not (wt_val (we_cb (sim_isT Kt) (wa_cons (we_var (pv 0)) (wa_cons (we_tup (wa_cons (we_ty (pe_bltn (by rfl) T.z_list boot_listU rfl)) (wa_cons (we_ty (pe_bltn (by rfl) T.z_tuple boot_tupleU rfl)) (wa_nil)))) (wa_nil))) (fun a => pe_callB call_isiTU (by rfl) T.z_isinstance boot_isinstanceU a)))) (ww_or1 (wt_not (wt_chain sim_cB sim_cB (we_int) (we_cb sim_len (wa_cons (we_var (pv 0)) (wa_nil)) (fun a => pe_callB (call_lenU rfl call_lenRd) (by rfl) T.z_len boot_lenU a)) (we_gv C.g_MOST_LAYERS) (fun a b c => pt_chain op_le op_le a b c))))).wt) (wss_one (ws_never)) (wss_nil)) (wss_one (ws_if (wt_not (wt_val (we_cb sim_all (wa_cons (we_lc false rfl nd (own := [("owned", 1)]) (wi_seq (we_var (pv 0))) (blkOk_by (N := ["chain", "owned"]) (sc := defScope s_need_chain) (by decide +kernel)) (fun s H C cl fp => wg_name (pg_name (i := 1) nd rfl (by first | exact Or.inl rfl | exact Or.inr rfl))) (fun s H C cl fp => wts_nil) (fun s H C cl fp => we_callP D_is_owned noG (hr.mono (by decide)) takes0 (wa_cons (we_var (pv 1)) (wa_nil)) B_is_owned_1) (by decide)) (wa_nil)) (fun a => pe_callB call_allU (by rfl) T.z_all boot_allU a)))) (wss_one (ws_never)) (wss_nil)))
  exact ⟨_, Y⟩
theorem sc_span_of : FnScope ["many", "thing", "lower", "upper"] ["many", "thing"] (defScope s_span_of) := ⟨rfl, rfl, rfl, by decide +kernel, rfl, by decide +kernel, by decide +kernel⟩
theorem ok_span_of {f_is_cell : Addr} {fd_is_cell : FuncData} {f_span_of : Addr} {fd_span_of : FuncData} (j : Nat) {R_ : FD} (F : Fun K "span_of" "span_of" s_span_of f fd) (T : Txt mg) (SMb : SM base) (C : Cst K CA mg) (Kt : KtOk K CA [] ktB) (B_is_cell_1 : KwB K CA fd_is_cell ["thing"] 1 [] (srcP 0 1)) (D_is_cell : Df P w K mg base CA "is_cell" false 1 ["thing"] F_is_cell f_is_cell fd_is_cell) (B_span_of_2 : KwB K CA fd_span_of ["many", "thing"] 2 [] (srcP 0 2)) (D_span_of : Df P w K mg base CA "span_of" false (1 + j) ["many", "thing"] R_ f_span_of fd_span_of) : FnG P w K mg base false (1 + j + 1) f fd ["many", "thing"] (spD K CA 2 (bodyF 4 (u_span_of R_))) := by
  have nd := (sc_span_of).nd
  refine okD F sc_span_of rfl rfl fun cd A outer s H E hg hr tk => ?_
  have Y : WSs (cxD P w K mg base ["many", "thing", "lower", "upper"] "span_of" s_span_of f cd A outer s H E) K CA (wxD E) (defBody s_span_of) _ _ := wss_cons (ws_if (wt_val (we_callP D_is_cell noG (hr.mono (by omega)) tk (wa_cons (we_var (pv 1)) (wa_nil)) B_is_cell_1)) (wss_one (ws_ret (we_ifExp (wt_cmp op_lt sim_cB (we_var (pv 1)) (we_var (pv 0)) (by rfl)) (we_tup (wa_cons (we_var (pv 1)) (wa_cons (we_var (pv 1)) (wa_nil)))) (we_non)))) (wss_nil)) (wss_cons (ws_if ((ww_or (wt_not (wt_val (we_cb (sim_isi Kt) (wa_cons (we_var (pv 1)) (wa_cons (we_ty (pe_bltn (by rfl) T.z_tuple boot_tupleU rfl)) (wa_nil))) (fun a => pe_callB call_isiU (by rfl) T.z_isinstance boot_isinstanceU a)))) (ww_or (wt_cmp (op_neU hr.units) sim_ne (we_cb sim_len (wa_cons (we_var (pv 1)) (wa_nil)) (fun a => pe_callB (call_lenU rfl call_lenRd) (by rfl) T.z_len boot_lenU a)) (we_int) (by rfl)) (ww_or (wt_not (wt_val (we_cb (sim_isi Kt) (wa_cons (we_ix (ixU (hu_of hr)) sim_ix (we_var (pv 1)) (we_int)) (wa_cons (we_ty (pe_bltn (by rfl) T.z_str boot_strU rfl)) (wa_nil))) (fun a => pe_callB call_isiU (by rfl) T.z_isinstance boot_isinstanceU a)))) (ww_or1 (wt_cmp (op_notInU (hu_of hr)) (sim_in (neg := true)) (we_ix (ixU (hu_of hr)) sim_ix (we_var (pv 1)) (we_int)) (we_gv C.g_KINDS) (by rfl)))))).wt) (wss_one (ws_ret (we_non))) (wss_nil)) (wss_cons (ws_par (wa_cons (we_callP D_span_of noG (hr.mono (by omega)) tk (wa_cons (we_var (pv 0)) (wa_cons (we_ix (ixU (hu_of hr)) sim_ix (we_var (pv 1)) (we_int)) (wa_nil))) B_span_of_2) (wa_cons (we_callP D_span_of noG (hr.mono (by omega)) tk (wa_cons (we_var (pv 0)) (wa_cons (we_ix (ixU (hu_of hr)) sim_ix (we_var (pv 1)) (we_int)) (wa_nil))) B_span_of_2) (wa_nil))) (fun q => ps_par (i := 2) (j := 3) rfl nd rfl rfl (by decide) rfl rfl q (by rfl))) (wss_cons (ws_if ((ww_or (wt_cmp op_isN sim_isN (we_var (pv 2)) (we_non) (by rfl)) (ww_or (wt_cmp op_isN sim_isN (we_var (pv 3)) (we_non) (by rfl)) (ww_or1 (wt_cmp (op_neU hr.units) sim_ne (we_op op_addU (sim_add (nm := false)) (we_ix (ixU (hu_of hr)) sim_ix (we_var (pv 2)) (we_int)) (we_int)) (we_ix (ixU (hu_of hr)) sim_ix (we_var (pv 3)) (we_int)) (by rfl))))).wt) (wss_one (ws_ret (we_non))) (wss_nil)) (wss_one (ws_ret (we_tup (wa_cons (we_ix (ixU (hu_of hr)) sim_ix (we_var (pv 2)) (we_int)) (wa_cons (we_ix (ixU (hu_of hr)) sim_ix (we_var (pv 3)) (we_int)) (wa_nil)))))))))
  exact ⟨_, Y⟩
theorem sc_is_plan : FnScope ["chain", "thing"] ["chain", "thing"] (defScope s_is_plan) := ⟨rfl, rfl, rfl, by decide +kernel, rfl, by decide +kernel, by decide +kernel⟩
theorem ok_is_plan {f_need_chain : Addr} {fd_need_chain : FuncData} {f_span_of : Addr} {fd_span_of : FuncData} (F : Fun K "is_plan" "is_plan" s_is_plan f fd) (T : Txt mg) (SMb : SM base) (C : Cst K CA mg) (Kt : KtOk K CA [] ktB) (B_need_chain_1 : KwB K CA fd_need_chain ["chain"] 1 [] (srcP 0 1)) (D_need_chain : Df P w K mg base CA "need_chain" false 3 ["chain"] F_need_chain f_need_chain fd_need_chain) (B_span_of_2 : KwB K CA fd_span_of ["many", "thing"] 2 [] (srcP 0 2)) (D_span_of : Df P w K mg base CA "span_of" false 10 ["many", "thing"] F_span_of f_span_of fd_span_of) : FnG P w K mg base false 11 f fd ["chain", "thing"] (spD K CA 2 (bodyF 2 u_is_plan)) := by
  have nd := (sc_is_plan).nd
  refine okD F sc_is_plan rfl rfl fun cd A outer s H E hg hr tk => ?_
  have Y : WSs (cxD P w K mg base ["chain", "thing"] "is_plan" s_is_plan f cd A outer s H E) K CA (wxD E) (defBody s_is_plan) _ _ := wss_cons (ws_expr (we_callP D_need_chain noG (hr.mono (by decide)) tk (wa_cons (we_var (pv 0)) (wa_nil)) B_need_chain_1)) (wss_one (ws_ret (we_cmp (op_eqU hr.units) sim_eq (we_callP D_span_of noG (hr.mono (by decide)) tk (wa_cons (we_cb sim_len (wa_cons (we_var (pv 0)) (wa_nil)) (fun a => pe_callB (call_lenU rfl call_lenRd) (by rfl) T.z_len boot_lenU a)) (wa_cons (we_var (pv 1)) (wa_nil))) B_span_of_2) (we_tup (wa_cons (we_int) (wa_cons (we_op op_sub sim_subI (we_cb sim_len (wa_cons (we_var (pv 0)) (wa_nil)) (fun a => pe_callB (call_lenU rfl call_lenRd) (by rfl) T.z_len boot_lenU a)) (we_int)) (wa_nil)))) (by rfl))))
  exact ⟨_, Y⟩
theorem sc_need_plan : FnScope ["chain", "plan"] ["chain", "plan"] (defScope s_need_plan) := ⟨rfl, rfl, rfl, by decide +kernel, rfl, by decide +kernel, by decide +kernel⟩
theorem ok_need_plan {f_is_plan : Addr} {fd_is_plan : FuncData} (F : Fun K "need_plan" "need_plan" s_need_plan f fd) (T : Txt mg) (SMb : SM base) (C : Cst K CA mg) (Kt : KtOk K CA [] ktB) (B_is_plan_2 : KwB K CA fd_is_plan ["chain", "thing"] 2 [] (srcP 0 2)) (D_is_plan : Df P w K mg base CA "is_plan" false 11 ["chain", "thing"] F_is_plan f_is_plan fd_is_plan) : FnG P w K mg base false 12 f fd ["chain", "plan"] (spD K CA 2 (bodyF 2 u_need_plan)) := by
  have nd := (sc_need_plan).nd
  refine okD F sc_need_plan rfl rfl fun cd A outer s H E hg hr tk => ?_
  have Y : WSs (cxD P w K mg base ["chain", "plan"] "need_plan" s_need_plan f cd A outer s H E) K CA (wxD E) (defBody s_need_plan) _ _ := wss_one (ws_if (wt_not (wt_val (we_callP D_is_plan noG (hr.mono (by decide)) tk (wa_cons (we_var (pv 0)) (wa_cons (we_var (pv 1)) (wa_nil))) B_is_plan_2))) (wss_one (ws_never)) (wss_nil))
  exact ⟨_, Y⟩
theorem sc_copied : FnScope ["kind", "lower", "upper", "cell"] ["kind", "lower", "upper"] (defScope s_copied) := ⟨rfl, rfl, rfl, by decide +kernel, rfl, by decide +kernel, by decide +kernel⟩
theorem ok_copied  (F : Fun K "copied" "copied" s_copied f fd) (T : Txt mg) (SMb : SM base) (C : Cst K CA mg) (Kt : KtOk K CA [] ktB)  : FnG P w K mg base false 1 f fd ["kind", "lower", "upper"] (spD K CA 3 (bodyF 4 u_copied)) := by
  have nd := (sc_copied).nd
  refine okD F sc_copied rfl rfl fun cd A outer s H E hg hr tk => ?_
  have Y : WSs (cxD P w K mg base ["kind", "lower", "upper", "cell"] "copied" s_copied f cd A outer s H E) K CA (wxD E) (defBody s_copied) _ _ := wss_one (ws_ret (we_ifExp (wt_cmp (op_eqU hr.units) sim_eq (we_var (pv 0)) (we_str) (by rfl)) (we_cb sim_len (wa_cons (we_var (pv 2)) (wa_nil)) (fun a => pe_callB (call_lenU rfl call_lenRd) (by rfl) T.z_len boot_lenU a)) (we_cb sim_len (wa_cons (we_lc false rfl nd (own := [("cell", 3)]) (wi_seq (we_var (pv 1))) (blkOk_by (N := ["kind", "lower", "upper", "cell"]) (sc := defScope s_copied) (by decide +kernel)) (fun s H C cl fp => wg_name (pg_name (i := 3) nd rfl (by first | exact Or.inl rfl | exact Or.inr rfl))) (fun s H C cl fp => wts_one (wt_cmp (op_notInU (hu_of hr)) (sim_in (neg := true)) (we_var (pv 3)) (we_var (pv 2)) (by rfl))) (fun s H C cl fp => we_var (pv 3)) (by decide)) (wa_nil)) (fun a => pe_callB (call_lenU rfl call_lenRd) (by rfl) T.z_len boot_lenU a))))
  exact ⟨_, Y⟩
theorem sc_owned_by : FnScope ["chain", "first", "last", "owned", "cell"] ["chain", "first", "last"] (defScope s_owned_by) := ⟨rfl, rfl, rfl, by decide +kernel, rfl, by decide +kernel, by decide +kernel⟩
theorem ok_owned_by  (F : Fun K "owned_by" "owned_by" s_owned_by f fd) (T : Txt mg) (SMb : SM base) (C : Cst K CA mg) (Kt : KtOk K CA [] ktB)  : FnG P w K mg base false 1 f fd ["chain", "first", "last"] (spD K CA 3 (bodyF 5 u_owned_by)) := by
  have nd := (sc_owned_by).nd
  refine okD F sc_owned_by rfl rfl fun cd A outer s H E hg hr tk => ?_
  have Y : WSs (cxD P w K mg base ["chain", "first", "last", "owned", "cell"] "owned_by" s_owned_by f cd A outer s H E) K CA (wxD E) (defBody s_owned_by) _ _ := wss_one (ws_ret (we_cb (sim_listK (nm := false)) (wa_cons (we_dc2 false (own := [("owned", 3), ("cell", 4)]) (vs1 := [4]) rfl nd (wi_seq (we_slice false (we_var (pv 0)) (wo_some (we_var (pv 1))) (wo_some (we_op op_addU (sim_add (nm := false)) (we_var (pv 2)) (we_int))))) (blkOk_by (N := ["chain", "first", "last", "owned", "cell"]) (sc := defScope s_owned_by) (by decide +kernel)) (fun s H C cl fp => wg_name (pg_name (i := 3) nd rfl (by first | exact Or.inl rfl | exact Or.inr rfl))) (fun s H C cl fp => wts_nil) (fun s H C cl fp => wi_seq (we_var (pv 3))) (fun s H C cl fp => wg_name (pg_name (i := 4) nd rfl (by first | exact Or.inl rfl | exact Or.inr rfl))) (fun s H C cl fp => wts_nil) (fun s H C cl fp => we_var (pv 4)) (fun s H C cl fp => we_bl) (by decide) (by decide) (by decide)) (wa_nil)) (fun a => pe_callTy call_listK (by rfl) T.z_list boot_listU a)))
  exact ⟨_, Y⟩
theorem sc_cost_of : FnScope ["chain", "plan", "kind", "lower", "upper", "low", "high", "last"] ["chain", "plan"] (defScope s_cost_of) := ⟨rfl, rfl, rfl, by decide +kernel, rfl, by decide +kernel, by decide +kernel⟩
theorem ok_cost_of {f_is_cell : Addr} {fd_is_cell : FuncData} {f_span_of : Addr} {fd_span_of : FuncData} {f_copied : Addr} {fd_copied : FuncData} {f_owned_by : Addr} {fd_owned_by : FuncData} {f_cost_of : Addr} {fd_cost_of : FuncData} (j : Nat) {R_ : FD} (F : Fun K "cost_of" "cost_of" s_cost_of f fd) (T : Txt mg) (SMb : SM base) (C : Cst K CA mg) (Kt : KtOk K CA [] ktB) (B_is_cell_1 : KwB K CA fd_is_cell ["thing"] 1 [] (srcP 0 1)) (D_is_cell : Df P w K mg base CA "is_cell" false 1 ["thing"] F_is_cell f_is_cell fd_is_cell) (B_span_of_2 : KwB K CA fd_span_of ["many", "thing"] 2 [] (srcP 0 2)) (D_span_of : Df P w K mg base CA "span_of" false 10 ["many", "thing"] F_span_of f_span_of fd_span_of) (B_copied_3 : KwB K CA fd_copied ["kind", "lower", "upper"] 3 [] (srcP 0 3)) (D_copied : Df P w K mg base CA "copied" false 1 ["kind", "lower", "upper"] F_copied f_copied fd_copied) (B_owned_by_3 : KwB K CA fd_owned_by ["chain", "first", "last"] 3 [] (srcP 0 3)) (D_owned_by : Df P w K mg base CA "owned_by" false 1 ["chain", "first", "last"] F_owned_by f_owned_by fd_owned_by) (B_cost_of_2 : KwB K CA fd_cost_of ["chain", "plan"] 2 [] (srcP 0 2)) (D_cost_of : Df P w K mg base CA "cost_of" false (10 + j) ["chain", "plan"] R_ f_cost_of fd_cost_of) : FnG P w K mg base false (10 + j + 1) f fd ["chain", "plan"] (spD K CA 2 (bodyF 8 (u_cost_of R_))) := by
  have nd := (sc_cost_of).nd
  refine okD F sc_cost_of rfl rfl fun cd A outer s H E hg hr tk => ?_
  have Y : WSs (cxD P w K mg base ["chain", "plan", "kind", "lower", "upper", "low", "high", "last"] "cost_of" s_cost_of f cd A outer s H E) K CA (wxD E) (defBody s_cost_of) _ _ := wss_cons (ws_if (wt_val (we_callP D_is_cell noG (hr.mono (by omega)) tk (wa_cons (we_var (pv 1)) (wa_nil)) B_is_cell_1)) (wss_one (ws_ret (we_int))) (wss_nil)) (wss_cons (ws_asg (we_var (pv 1)) (wg_tup (n := 3) rfl (wgs_cons (wg_name (pg_name (i := 2) nd rfl (by first | exact Or.inl rfl | exact Or.inr rfl))) (wgs_cons (wg_name (pg_name (i := 3) nd rfl (by first | exact Or.inl rfl | exact Or.inr rfl))) (wgs_cons (wg_name (pg_name (i := 4) nd rfl (by first | exact Or.inl rfl | exact Or.inr rfl))) (wgs_nil)))))) (wss_cons (ws_par (wa_cons (we_callP D_span_of noG (hr.mono (by omega)) tk (wa_cons (we_cb sim_len (wa_cons (we_var (pv 0)) (wa_nil)) (fun a => pe_callB (call_lenU rfl call_lenRd) (by rfl) T.z_len boot_lenU a)) (wa_cons (we_var (pv 3)) (wa_nil))) B_span_of_2) (wa_cons (we_callP D_span_of noG (hr.mono (by omega)) tk (wa_cons (we_cb sim_len (wa_cons (we_var (pv 0)) (wa_nil)) (fun a => pe_callB (call_lenU rfl call_lenRd) (by rfl) T.z_len boot_lenU a)) (wa_cons (we_var (pv 4)) (wa_nil))) B_span_of_2) (wa_nil))) (fun q => ps_par (i := 5) (j := 6) rfl nd rfl rfl (by decide) rfl rfl q (by rfl))) (wss_cons (ws_set (we_callP D_copied noG (hr.mono (by omega)) tk (wa_cons (we_var (pv 2)) (wa_cons (we_callP D_owned_by noG (hr.mono (by omega)) tk (wa_cons (we_var (pv 0)) (wa_cons (we_ix (ixU (hu_of hr)) sim_ix (we_var (pv 5)) (we_int)) (wa_cons (we_ix (ixU (hu_of hr)) sim_ix (we_var (pv 5)) (we_int)) (wa_nil)))) B_owned_by_3) (wa_cons (we_callP D_owned_by noG (hr.mono (by omega)) tk (wa_cons (we_var (pv 0)) (wa_cons (we_ix (ixU (hu_of hr)) sim_ix (we_var (pv 6)) (we_int)) (wa_cons (we_ix (ixU (hu_of hr)) sim_ix (we_var (pv 6)) (we_int)) (wa_nil)))) B_owned_by_3) (wa_nil)))) B_copied_3) (fun q => ps_set (i := 7) nd rfl (by first | exact Or.inl rfl | exact Or.inr rfl) q)) (wss_one (ws_ret (we_op op_addU (sim_add (nm := false)) (we_op op_addU (sim_add (nm := false)) (we_callP D_cost_of noG (hr.mono (by omega)) tk (wa_cons (we_var (pv 0)) (wa_cons (we_var (pv 3)) (wa_nil))) B_cost_of_2) (we_callP D_cost_of noG (hr.mono (by omega)) tk (wa_cons (we_var (pv 0)) (wa_cons (we_var (pv 4)) (wa_nil))) B_cost_of_2)) (we_var (pv 7))))))))
  exact ⟨_, Y⟩
theorem sc_cost : FnScope ["chain", "plan"] ["chain", "plan"] (defScope s_cost) := ⟨rfl, rfl, rfl, by decide +kernel, rfl, by decide +kernel, by decide +kernel⟩
theorem ok_cost {f_need_plan : Addr} {fd_need_plan : FuncData} {f_cost_of : Addr} {fd_cost_of : FuncData} (F : Fun K "cost" "cost" s_cost f fd) (T : Txt mg) (SMb : SM base) (C : Cst K CA mg) (Kt : KtOk K CA [] ktB) (B_need_plan_2 : KwB K CA fd_need_plan ["chain", "plan"] 2 [] (srcP 0 2)) (D_need_plan : Df P w K mg base CA "need_plan" false 12 ["chain", "plan"] F_need_plan f_need_plan fd_need_plan) (B_cost_of_2 : KwB K CA fd_cost_of ["chain", "plan"] 2 [] (srcP 0 2)) (D_cost_of : Df P w K mg base CA "cost_of" false 19 ["chain", "plan"] F_cost_of f_cost_of fd_cost_of) : FnG P w K mg base false 20 f fd ["chain", "plan"] (spD K CA 2 (bodyF 2 u_cost)) := by
  have nd := (sc_cost).nd
  refine okD F sc_cost rfl rfl fun cd A outer s H E hg hr tk => ?_
  have Y : WSs (cxD P w K mg base ["chain", "plan"] "cost" s_cost f cd A outer s H E) K CA (wxD E) (defBody s_cost) _ _ := wss_cons (ws_expr (we_callP D_need_plan noG (hr.mono (by decide)) tk (wa_cons (we_var (pv 0)) (wa_cons (we_var (pv 1)) (wa_nil))) B_need_plan_2)) (wss_one (ws_ret (we_callP D_cost_of noG (hr.mono (by decide)) tk (wa_cons (we_var (pv 0)) (wa_cons (we_var (pv 1)) (wa_nil))) B_cost_of_2)))
  exact ⟨_, Y⟩
theorem sc_cheapest : FnScope ["chain", "best", "at", "width", "first", "last", "offers", "middle", "lower", "upper", "sets", "kind", "least", "price", "plan", "offer"] ["chain"] (defScope s_cheapest) := ⟨rfl, rfl, rfl, by decide +kernel, rfl, by decide +kernel, by decide +kernel⟩
theorem ok_cheapest {f_need_chain : Addr} {fd_need_chain : FuncData} {f_owned_by : Addr} {fd_owned_by : FuncData} {f_copied : Addr} {fd_copied : FuncData} (F : Fun K "cheapest" "cheapest" s_cheapest f fd) (T : Txt mg) (SMb : SM base) (C : Cst K CA mg) (Kt : KtOk K CA [] ktB) (B_need_chain_1 : KwB K CA fd_need_chain ["chain"] 1 [] (srcP 0 1)) (D_need_chain : Df P w K mg base CA "need_chain" false 3 ["chain"] F_need_chain f_need_chain fd_need_chain) (B_owned_by_3 : KwB K CA fd_owned_by ["chain", "first", "last"] 3 [] (srcP 0 3)) (D_owned_by : Df P w K mg base CA "owned_by" false 1 ["chain", "first", "last"] F_owned_by f_owned_by fd_owned_by) (B_copied_3 : KwB K CA fd_copied ["kind", "lower", "upper"] 3 [] (srcP 0 3)) (D_copied : Df P w K mg base CA "copied" false 1 ["kind", "lower", "upper"] F_copied f_copied fd_copied) : FnG P w K mg base false 4 f fd ["chain"] (spD K CA 1 (bodyF 16 u_cheapest)) := by
  have nd := (sc_cheapest).nd
  refine okD F sc_cheapest rfl rfl fun cd A outer s H E hg hr tk => ?_
  have Y : WSs (cxD P w K mg base ["chain", "best", "at", "width", "first", "last", "offers", "middle", "lower", "upper", "sets", "kind", "least", "price", "plan", "offer"] "cheapest" s_cheapest f cd A outer s H E) K CA (wxD E) (defBody s_cheapest) _ _ := wss_cons (ws_expr (we_callP D_need_chain noG (hr.mono (by decide)) tk (wa_cons (we_var (pv 0)) (wa_nil)) B_need_chain_1)) (wss_cons (ws_setDcT (hu_of hr) (i := 1) rfl nd rfl rfl (own := [("at", 2)]) (wi_rng1 (wa_cons (we_cb sim_len (wa_cons (we_var (pv 0)) (wa_nil)) (fun a => pe_callB (call_lenU rfl call_lenRd) (by rfl) T.z_len boot_lenU a)) (wa_nil)) (fun a => pi_range1 (by rfl) T.z_range a)) (blkOk_by (N := ["chain", "best", "at", "width", "first", "last", "offers", "middle", "lower", "upper", "sets", "kind", "least", "price", "plan", "offer"]) (sc := defScope s_cheapest) (by decide +kernel)) (fun s H C cl fp => wg_name (pg_name (i := 2) nd rfl (by first | exact Or.inl rfl | exact Or.inr rfl))) (fun s H C cl fp => wts_nil) (fun s H C cl fp => wa_cons (we_var (pv 2)) (wa_cons (we_var (pv 2)) (wa_nil))) (fun s H C cl fp => we_tup (wa_cons (we_int) (wa_cons (we_var (pv 2)) (wa_nil)))) (by decide)) (wss_cons (ws_for (wi_rng2 (wa_cons (we_int) (wa_cons (we_cb sim_len (wa_cons (we_var (pv 0)) (wa_nil)) (fun a => pe_callB (call_lenU rfl call_lenRd) (by rfl) T.z_len boot_lenU a)) (wa_nil))) (fun a => pi_range2 (by rfl) T.z_range a)) (wg_name (pg_name (i := 3) nd rfl (by first | exact Or.inl rfl | exact Or.inr rfl))) (wss_one (ws_for (wi_rng1 (wa_cons (we_op op_sub sim_subI (we_cb sim_len (wa_cons (we_var (pv 0)) (wa_nil)) (fun a => pe_callB (call_lenU rfl call_lenRd) (by rfl) T.z_len boot_lenU a)) (we_var (pv 3))) (wa_nil)) (fun a => pi_range1 (by rfl) T.z_range a)) (wg_name (pg_name (i := 4) nd rfl (by first | exact Or.inl rfl | exact Or.inr rfl))) (wss_cons (ws_par (wa_cons (we_op op_addU (sim_add (nm := false)) (we_var (pv 4)) (we_var (pv 3))) (wa_cons (we_lst true (wa_nil)) (wa_nil))) (fun q => ps_par (i := 5) (j := 6) rfl nd rfl rfl (by decide) rfl rfl q (by rfl))) (wss_cons (ws_for (wi_rng2 (wa_cons (we_var (pv 4)) (wa_cons (we_var (pv 5)) (wa_nil))) (fun a => pi_range2 (by rfl) T.z_range a)) (wg_name (pg_name (i := 7) nd rfl (by first | exact Or.inl rfl | exact Or.inr rfl))) (wss_cons (ws_par (wa_cons (we_ixT (hu_of hr) (we_var (pv 1)) (wa_cons (we_var (pv 4)) (wa_cons (we_var (pv 7)) (wa_nil)))) (wa_cons (we_ixT (hu_of hr) (we_var (pv 1)) (wa_cons (we_op op_addU (sim_add (nm := false)) (we_var (pv 7)) (we_int)) (wa_cons (we_var (pv 5)) (wa_nil)))) (wa_nil))) (fun q => ps_par (i := 8) (j := 9) rfl nd rfl rfl (by decide) rfl rfl q (by rfl))) (wss_cons (ws_set (we_tup (wa_cons (we_callP D_owned_by noG (hr.mono (by decide)) tk (wa_cons (we_var (pv 0)) (wa_cons (we_var (pv 4)) (wa_cons (we_var (pv 7)) (wa_nil)))) B_owned_by_3) (wa_cons (we_callP D_owned_by noG (hr.mono (by decide)) tk (wa_cons (we_var (pv 0)) (wa_cons (we_op op_addU (sim_add (nm := false)) (we_var (pv 7)) (we_int)) (wa_cons (we_var (pv 5)) (wa_nil)))) B_owned_by_3) (wa_nil)))) (fun q => ps_set (i := 10) nd rfl (by first | exact Or.inl rfl | exact Or.inr rfl) q)) (wss_one (ws_for (wi_seq (we_gv C.g_KINDS)) (wg_name (pg_name (i := 11) nd rfl (by first | exact Or.inl rfl | exact Or.inr rfl))) (wss_one (ws_expr (we_bm (T := "list") (r := rAppend) sim_append (we_var (pv 6)) (wa_cons (we_tup (wa_cons (we_op op_addU (sim_add (nm := false)) (we_op op_addU (sim_add (nm := false)) (we_ix (ixU (hu_of hr)) sim_ix (we_var (pv 8)) (we_int)) (we_ix (ixU (hu_of hr)) sim_ix (we_var (pv 9)) (we_int))) (we_callS D_copied noG (hr.mono (by decide)) tk (wa_cons (we_var (pv 11)) (wa_star (we_var (pv 10)) (wa_nil))) B_copied_3)) (wa_cons (we_tup (wa_cons (we_var (pv 11)) (wa_cons (we_ix (ixU (hu_of hr)) sim_ix (we_var (pv 8)) (we_int)) (wa_cons (we_ix (ixU (hu_of hr)) sim_ix (we_var (pv 9)) (we_int)) (wa_nil))))) (wa_nil)))) (wa_nil)) (fun a b => pe_bm PySem.F.plainAttrs_list PySem.F.slot_list_append PySem.F.type_list_append mt_append a b)))) (fun i g b => ps_for (passes_of rfl) rfl i g b))))) (fun i g b => ps_for (passes_of rfl) rfl i g b)) (wss_cons (ws_set (we_cb sim_minL (wa_cons (we_lc false rfl nd (own := [("price", 13), ("plan", 14)]) (wi_seq (we_var (pv 6))) (blkOk_by (N := ["chain", "best", "at", "width", "first", "last", "offers", "middle", "lower", "upper", "sets", "kind", "least", "price", "plan", "offer"]) (sc := defScope s_cheapest) (by decide +kernel)) (fun s H C cl fp => wg_tup (n := 2) rfl (wgs_cons (wg_name (pg_name (i := 13) nd rfl (by first | exact Or.inl rfl | exact Or.inr rfl))) (wgs_cons (wg_name (pg_name (i := 14) nd rfl (by first | exact Or.inl rfl | exact Or.inr rfl))) (wgs_nil)))) (fun s H C cl fp => wts_nil) (fun s H C cl fp => we_var (pv 13)) (by decide)) (wa_nil)) (fun a => pe_callB call_minL (by rfl) T.z_min boot_minU a)) (fun q => ps_set (i := 12) nd rfl (by first | exact Or.inl rfl | exact Or.inr rfl) q)) (wss_one (ws_asg (we_ix (ixU (hu_of hr)) sim_ix (we_lc false rfl nd (own := [("offer", 15)]) (wi_seq (we_var (pv 6))) (blkOk_by (N := ["chain", "best", "at", "width", "first", "last", "offers", "middle", "lower", "upper", "sets", "kind", "least", "price", "plan", "offer"]) (sc := defScope s_cheapest) (by decide +kernel)) (fun s H C cl fp => wg_name (pg_name (i := 15) nd rfl (by first | exact Or.inl rfl | exact Or.inr rfl))) (fun s H C cl fp => wts_one (wt_cmp (op_eqU hr.units) sim_eq (we_ix (ixU (hu_of hr)) sim_ix (we_var (pv 15)) (we_int)) (we_var (pv 12)) (by rfl))) (fun s H C cl fp => we_var (pv 15)) (by decide)) (we_int)) (wg_subT (W := wxD E) (hu_of hr) (we_var (pv 1)) (wa_cons (we_var (pv 4)) (wa_cons (we_var (pv 5)) (wa_nil))) (fun a b c => pg_sub a b c))))))) (fun i g b => ps_for (passes_of rfl) rfl i g b))) (fun i g b => ps_for (passes_of rfl) rfl i g b)) (wss_one (ws_ret (we_ixT (hu_of hr) (we_var (pv 1)) (wa_cons (we_int) (wa_cons (we_op op_sub sim_subI (we_cb sim_len (wa_cons (we_var (pv 0)) (wa_nil)) (fun a => pe_callB (call_lenU rfl call_lenRd) (by rfl) T.z_len boot_lenU a)) (we_int)) (wa_nil))))))))
  exact ⟨_, Y⟩
theorem sc_law : FnScope ["_law_script", "_law_draw", "_law_turn", "_law_rows", "_law_kept", "_law_lap", "_law_plan_here", "_law_due", "_law_found"] ["_law_script"] (defScope s_law) := ⟨rfl, rfl, rfl, by decide +kernel, rfl, by decide +kernel, by decide +kernel⟩
theorem ok_law {f__law_begun : Addr} {fd__law_begun : FuncData} {f__law_chain : Addr} {fd__law_chain : FuncData} {f__law_plan : Addr} {fd__law_plan : FuncData} {f__law_worth : Addr} {fd__law_worth : FuncData} {f_cost : Addr} {fd_cost : FuncData} {f_cheapest : Addr} {fd_cheapest : FuncData} (F : Fun K "law" "law" s_law f fd) (T : Txt mg) (SMb : SM base) (C : Cst K CA mg) (Kt : KtOk K CA [] ktB) (B__law_begun_1 : KwB K CA fd__law_begun ["_law_script"] 1 [] (srcP 0 1)) (D__law_begun : Df P w K mg base CA "_law_begun" false 1 ["_law_script"] F__law_begun f__law_begun fd__law_begun) (B__law_chain_3 : KwB K CA fd__law_chain ["_law_draw", "_law_least", "_law_most"] 3 [] (srcP 0 3)) (D__law_chain : Df P w K mg base CA "_law_chain" false 4 ["_law_draw", "_law_least", "_law_most"] F__law_chain f__law_chain fd__law_chain) (B__law_plan_3 : KwB K CA fd__law_plan ["_law_draw", "_law_first", "_law_last"] 3 [] (srcP 0 3)) (D__law_plan : Df P w K mg base CA "_law_plan" false 12 ["_law_draw", "_law_first", "_law_last"] F__law_plan f__law_plan fd__law_plan) (B__law_worth_2 : KwB K CA fd__law_worth ["_law_chain_of", "_law_plan_of"] 2 [] (srcP 0 2)) (D__law_worth : Df P w K mg base CA "_law_worth" false 10 ["_law_chain_of", "_law_plan_of"] F__law_worth f__law_worth fd__law_worth) (B_cost_0_plan_chain : KwB K CA fd_cost ["chain", "plan"] 0 ["plan", "chain"] ([.k 1, .k 0])) (D_cost : Df P w K mg base CA "cost" false 20 ["chain", "plan"] F_cost f_cost fd_cost) (B_cost_2 : KwB K CA fd_cost ["chain", "plan"] 2 [] (srcP 0 2)) (B_cheapest_1 : KwB K CA fd_cheapest ["chain"] 1 [] (srcP 0 1)) (D_cheapest : Df P w K mg base CA "cheapest" false 4 ["chain"] F_cheapest f_cheapest fd_cheapest) : FnG P w K mg base true 21 f fd ["_law_script"] (spD K CA 1 (bodyF 9 u_law)) := by
  have nd := (sc_law).nd
  refine okD F sc_law rfl rfl fun cd A outer s H E hg hr tk => ?_
  have Y : WSs (cxD P w K mg base ["_law_script", "_law_draw", "_law_turn", "_law_rows", "_law_kept", "_law_lap", "_law_plan_here", "_law_due", "_law_found"] "law" s_law f cd A outer s H E) K CA (wxD E) (defBody s_law) _ _ := wss_cons (ws_set (we_callP D__law_begun noG (hr.mono (by decide)) tk (wa_cons (we_var (pv 0)) (wa_nil)) B__law_begun_1) (fun q => ps_set (i := 1) nd rfl (by first | exact Or.inl rfl | exact Or.inr rfl) q)) (wss_cons (ws_for (wi_rng1 (wa_cons (we_op op_addU (sim_add (nm := false)) (we_int) (we_cb sim_min (wa_cons (we_cb sim_len (wa_cons (we_var (pv 0)) (wa_nil)) (fun a => pe_callB (call_lenU rfl call_lenRd) (by rfl) T.z_len boot_lenU a)) (wa_cons (we_int) (wa_nil))) (fun a => pe_callB call_minU (by rfl) T.z_min boot_minU a))) (wa_nil)) (fun a => pi_range1 (by rfl) T.z_range a)) (wg_name (pg_name (i := 2) nd rfl (by first | exact Or.inl rfl | exact Or.inr rfl))) (wss_cons (ws_set (we_callP D__law_chain noG (hr.mono (by decide)) tk (wa_cons (we_var (pv 1)) (wa_cons (we_int) (wa_cons (we_int) (wa_nil)))) B__law_chain_3) (fun q => ps_set (i := 3) nd rfl (by first | exact Or.inl rfl | exact Or.inr rfl) q)) (wss_cons (ws_set (we_cb sim_rep (wa_cons (we_var (pv 3)) (wa_nil)) (fun a => pe_callB (call_rep SMb (hg rfl) hr.units) (by rfl) T.z_repr boot_reprU a)) (fun q => ps_set (i := 4) nd rfl (by first | exact Or.inl rfl | exact Or.inr rfl) q)) (wss_cons (ws_for (wi_rng1 (wa_cons (we_int) (wa_nil)) (fun a => pi_range1 (by rfl) T.z_range a)) (wg_name (pg_name (i := 5) nd rfl (by first | exact Or.inl rfl | exact Or.inr rfl))) (wss_cons (ws_set (we_callP D__law_plan noG (hr.mono (by decide)) tk (wa_cons (we_var (pv 1)) (wa_cons (we_int) (wa_cons (we_op op_sub sim_subI (we_cb sim_len (wa_cons (we_var (pv 3)) (wa_nil)) (fun a => pe_callB (call_lenU rfl call_lenRd) (by rfl) T.z_len boot_lenU a)) (we_int)) (wa_nil)))) B__law_plan_3) (fun q => ps_set (i := 6) nd rfl (by first | exact Or.inl rfl | exact Or.inr rfl) q)) (wss_cons (ws_set (we_ix (ixU (hu_of hr)) sim_ix (we_callP D__law_worth noG (hr.mono (by decide)) tk (wa_cons (we_var (pv 3)) (wa_cons (we_var (pv 6)) (wa_nil))) B__law_worth_2) (we_int)) (fun q => ps_set (i := 7) nd rfl (by first | exact Or.inl rfl | exact Or.inr rfl) q)) (wss_cons (ws_set (we_lst false (wa_cons (we_callP D_cost noG (hr.mono (by decide)) tk (wa_cons (we_var (pv 3)) (wa_cons (we_var (pv 6)) (wa_nil))) B_cost_2) (wa_cons (we_callP D_cost noG (hr.mono (by decide)) tk (wa_cons (we_cb sim_tupOf (wa_cons (we_var (pv 3)) (wa_nil)) (fun a => pe_callTy call_tupOf (by rfl) T.z_tuple boot_tupleU a)) (wa_cons (we_var (pv 6)) (wa_nil))) B_cost_2) (wa_cons (we_callK0 D_cost noG (hr.mono (by decide)) tk (wk_cons (we_var (pv 6)) (wk_cons (we_var (pv 3)) (wk_nil))) B_cost_0_plan_chain) (wa_nil))))) (fun q => ps_set (i := 8) nd rfl (by first | exact Or.inl rfl | exact Or.inr rfl) q)) (wss_cons (ws_if (wt_cmp (op_neU hr.units) sim_ne (we_cb sim_rep (wa_cons (we_var (pv 8)) (wa_nil)) (fun a => pe_callB (call_rep SMb (hg rfl) hr.units) (by rfl) T.z_repr boot_reprU a)) (we_cb sim_rep (wa_cons (we_op op_mulU (sim_mul (nm := false)) (we_lst false (wa_cons (we_var (pv 7)) (wa_nil))) (we_int)) (wa_nil)) (fun a => pe_callB (call_rep SMb (hg rfl) hr.units) (by rfl) T.z_repr boot_reprU a)) (by rfl)) (wss_one (ws_ret (we_bl))) (wss_nil)) (wss_one (ws_if (wt_cmp op_gt sim_cB (we_ix (ixU (hu_of hr)) sim_ix (we_callP D_cheapest noG (hr.mono (by decide)) tk (wa_cons (we_var (pv 3)) (wa_nil)) B_cheapest_1) (we_int)) (we_var (pv 7)) (by rfl)) (wss_one (ws_ret (we_bl))) (wss_nil))))))) (fun i g b => ps_for (passes_of rfl) rfl i g b)) (wss_one (ws_if ((ww_or (wt_cmp (op_neU hr.units) sim_ne (we_cb sim_rep (wa_cons (we_var (pv 3)) (wa_nil)) (fun a => pe_callB (call_rep SMb (hg rfl) hr.units) (by rfl) T.z_repr boot_reprU a)) (we_var (pv 4)) (by rfl)) (ww_or1 (wt_cmp (op_neU hr.units) sim_ne (we_callP D_cost noG (hr.mono (by decide)) tk (wa_cons (we_lst false (wa_cons (we_ix (ixU (hu_of hr)) sim_ix (we_var (pv 3)) (we_int)) (wa_nil))) (wa_cons (we_int) (wa_nil))) B_cost_2) (we_int) (by rfl)))).wt) (wss_one (ws_ret (we_bl))) (wss_nil)))))) (fun i g b => ps_for (passes_of rfl) rfl i g b)) (wss_one (ws_ret (we_bl))))
  exact ⟨_, Y⟩
theorem all_mk {l : PySem.W.OpenLaw} {h : Heap} {fa : Addr} {f0 : Addr} {od0 an0 : Option Addr} {sl0 : Array (Option Value)} {oc0 kV0 dc0 pm0 cd0 ct0 : Value} {f1 : Addr} {od1 an1 : Option Addr} {sl1 : Array (Option Value)} {oc1 kV1 dc1 pm1 cd1 ct1 : Value} {f2 : Addr} {od2 an2 : Option Addr} {sl2 : Array (Option Value)} {oc2 kV2 dc2 pm2 cd2 ct2 : Value} {f3 : Addr} {od3 an3 : Option Addr} {sl3 : Array (Option Value)} {oc3 kV3 dc3 pm3 cd3 ct3 : Value} {f4 : Addr} {od4 an4 : Option Addr} {sl4 : Array (Option Value)} {oc4 kV4 dc4 pm4 cd4 ct4 : Value} {f5 : Addr} {od5 an5 : Option Addr} {sl5 : Array (Option Value)} {oc5 kV5 dc5 pm5 cd5 ct5 : Value} {f6 : Addr} {od6 an6 : Option Addr} {sl6 : Array (Option Value)} {oc6 kV6 dc6 pm6 cd6 ct6 : Value} {f7 : Addr} {od7 an7 : Option Addr} {sl7 : Array (Option Value)} {oc7 kV7 dc7 pm7 cd7 ct7 : Value} {f8 : Addr} {od8 an8 : Option Addr} {sl8 : Array (Option Value)} {oc8 kV8 dc8 pm8 cd8 ct8 : Value} {f9 : Addr} {od9 an9 : Option Addr} {sl9 : Array (Option Value)} {oc9 kV9 dc9 pm9 cd9 ct9 : Value} {f10 : Addr} {od10 an10 : Option Addr} {sl10 : Array (Option Value)} {oc10 kV10 dc10 pm10 cd10 ct10 : Value} {f11 : Addr} {od11 an11 : Option Addr} {sl11 : Array (Option Value)} {oc11 kV11 dc11 pm11 cd11 ct11 : Value} {f12 : Addr} {od12 an12 : Option Addr} {sl12 : Array (Option Value)} {oc12 kV12 dc12 pm12 cd12 ct12 : Value} {f13 : Addr} {od13 an13 : Option Addr} {sl13 : Array (Option Value)} {oc13 kV13 dc13 pm13 cd13 ct13 : Value} {f14 : Addr} {od14 an14 : Option Addr} {sl14 : Array (Option Value)} {oc14 kV14 dc14 pm14 cd14 ct14 : Value} {f15 : Addr} {od15 an15 : Option Addr} {sl15 : Array (Option Value)} {oc15 kV15 dc15 pm15 cd15 ct15 : Value} {f16 : Addr} {od16 an16 : Option Addr} {sl16 : Array (Option Value)} {oc16 kV16 dc16 pm16 cd16 ct16 : Value} {f17 : Addr} {od17 an17 : Option Addr} {sl17 : Array (Option Value)} {oc17 kV17 dc17 pm17 cd17 ct17 : Value} {f18 : Addr} {od18 an18 : Option Addr} {sl18 : Array (Option Value)} {oc18 kV18 dc18 pm18 cd18 ct18 : Value} {f19 : Addr} {od19 an19 : Option Addr} {sl19 : Array (Option Value)} {oc19 kV19 dc19 pm19 cd19 ct19 : Value} {f20 : Addr} {od20 an20 : Option Addr} {sl20 : Array (Option Value)} {oc20 kV20 dc20 pm20 cd20 ct20 : Value} {t_MOST_LAYERS : Tok} {t_KINDS0 t_KINDS1 : Tok} {p_KINDS : Addr} {dd_KINDS : Option Addr} {n_KINDS : Nat} {sl_KINDS : Array (Option Value)} (X : K.In h) (G : h.Ns mainGlobals mg) (hfa : mg "law" = some (.ref fa))
    (a0 : PySem.W.nsIn K mainGlobals "_law_begun" = some (some (.ref f0)))
    (l0 : K.lookup f0 = some ⟨oc0, od0, .func (PySem.W.fnOf "_law_begun" "_law_begun" (defArgs s__law_begun) (defBody s__law_begun) (defScope s__law_begun) .none kV0 dc0 pm0 an0 cd0 ct0), sl0⟩)
    (c0 : PySem.W.codeIn K cd0 "_law_begun" = true)
    (k0 : PySem.W.keepIn K (.ref f0) = true)
    (a1 : PySem.W.nsIn K mainGlobals "_law_mixed" = some (some (.ref f1)))
    (l1 : K.lookup f1 = some ⟨oc1, od1, .func (PySem.W.fnOf "_law_mixed" "_law_mixed" (defArgs s__law_mixed) (defBody s__law_mixed) (defScope s__law_mixed) .none kV1 dc1 pm1 an1 cd1 ct1), sl1⟩)
    (c1 : PySem.W.codeIn K cd1 "_law_mixed" = true)
    (k1 : PySem.W.keepIn K (.ref f1) = true)
    (a2 : PySem.W.nsIn K mainGlobals "_law_take" = some (some (.ref f2)))
    (l2 : K.lookup f2 = some ⟨oc2, od2, .func (PySem.W.fnOf "_law_take" "_law_take" (defArgs s__law_take) (defBody s__law_take) (defScope s__law_take) .none kV2 dc2 pm2 an2 cd2 ct2), sl2⟩)
    (c2 : PySem.W.codeIn K cd2 "_law_take" = true)
    (k2 : PySem.W.keepIn K (.ref f2) = true)
    (a3 : PySem.W.nsIn K mainGlobals "_law_pick" = some (some (.ref f3)))
    (l3 : K.lookup f3 = some ⟨oc3, od3, .func (PySem.W.fnOf "_law_pick" "_law_pick" (defArgs s__law_pick) (defBody s__law_pick) (defScope s__law_pick) .none kV3 dc3 pm3 an3 cd3 ct3), sl3⟩)
    (c3 : PySem.W.codeIn K cd3 "_law_pick" = true)
    (k3 : PySem.W.keepIn K (.ref f3) = true)
    (a4 : PySem.W.nsIn K mainGlobals "_law_owned" = some (some (.ref f4)))
    (l4 : K.lookup f4 = some ⟨oc4, od4, .func (PySem.W.fnOf "_law_owned" "_law_owned" (defArgs s__law_owned) (defBody s__law_owned) (defScope s__law_owned) .none kV4 dc4 pm4 an4 cd4 ct4), sl4⟩)
    (c4 : PySem.W.codeIn K cd4 "_law_owned" = true)
    (k4 : PySem.W.keepIn K (.ref f4) = true)
    (a5 : PySem.W.nsIn K mainGlobals "_law_chain" = some (some (.ref f5)))
    (l5 : K.lookup f5 = some ⟨oc5, od5, .func (PySem.W.fnOf "_law_chain" "_law_chain" (defArgs s__law_chain) (defBody s__law_chain) (defScope s__law_chain) .none kV5 dc5 pm5 an5 cd5 ct5), sl5⟩)
    (c5 : PySem.W.codeIn K cd5 "_law_chain" = true)
    (k5 : PySem.W.keepIn K (.ref f5) = true)
    (a6 : PySem.W.nsIn K mainGlobals "_law_plan" = some (some (.ref f6)))
    (l6 : K.lookup f6 = some ⟨oc6, od6, .func (PySem.W.fnOf "_law_plan" "_law_plan" (defArgs s__law_plan) (defBody s__law_plan) (defScope s__law_plan) .none kV6 dc6 pm6 an6 cd6 ct6), sl6⟩)
    (c6 : PySem.W.codeIn K cd6 "_law_plan" = true)
    (k6 : PySem.W.keepIn K (.ref f6) = true)
    (a7 : PySem.W.nsIn K mainGlobals "_law_is_cell" = some (some (.ref f7)))
    (l7 : K.lookup f7 = some ⟨oc7, od7, .func (PySem.W.fnOf "_law_is_cell" "_law_is_cell" (defArgs s__law_is_cell) (defBody s__law_is_cell) (defScope s__law_is_cell) .none kV7 dc7 pm7 an7 cd7 ct7), sl7⟩)
    (c7 : PySem.W.codeIn K cd7 "_law_is_cell" = true)
    (k7 : PySem.W.keepIn K (.ref f7) = true)
    (a8 : PySem.W.nsIn K mainGlobals "_law_worth" = some (some (.ref f8)))
    (l8 : K.lookup f8 = some ⟨oc8, od8, .func (PySem.W.fnOf "_law_worth" "_law_worth" (defArgs s__law_worth) (defBody s__law_worth) (defScope s__law_worth) .none kV8 dc8 pm8 an8 cd8 ct8), sl8⟩)
    (c8 : PySem.W.codeIn K cd8 "_law_worth" = true)
    (k8 : PySem.W.keepIn K (.ref f8) = true)
    (a9 : PySem.W.nsIn K mainGlobals "is_cell" = some (some (.ref f9)))
    (l9 : K.lookup f9 = some ⟨oc9, od9, .func (PySem.W.fnOf "is_cell" "is_cell" (defArgs s_is_cell) (defBody s_is_cell) (defScope s_is_cell) .none kV9 dc9 pm9 an9 cd9 ct9), sl9⟩)
    (c9 : PySem.W.codeIn K cd9 "is_cell" = true)
    (k9 : PySem.W.keepIn K (.ref f9) = true)
    (a10 : PySem.W.nsIn K mainGlobals "is_owned" = some (some (.ref f10)))
    (l10 : K.lookup f10 = some ⟨oc10, od10, .func (PySem.W.fnOf "is_owned" "is_owned" (defArgs s_is_owned) (defBody s_is_owned) (defScope s_is_owned) .none kV10 dc10 pm10 an10 cd10 ct10), sl10⟩)
    (c10 : PySem.W.codeIn K cd10 "is_owned" = true)
    (k10 : PySem.W.keepIn K (.ref f10) = true)
    (a11 : PySem.W.nsIn K mainGlobals "need_chain" = some (some (.ref f11)))
    (l11 : K.lookup f11 = some ⟨oc11, od11, .func (PySem.W.fnOf "need_chain" "need_chain" (defArgs s_need_chain) (defBody s_need_chain) (defScope s_need_chain) .none kV11 dc11 pm11 an11 cd11 ct11), sl11⟩)
    (c11 : PySem.W.codeIn K cd11 "need_chain" = true)
    (k11 : PySem.W.keepIn K (.ref f11) = true)
    (a12 : PySem.W.nsIn K mainGlobals "span_of" = some (some (.ref f12)))
    (l12 : K.lookup f12 = some ⟨oc12, od12, .func (PySem.W.fnOf "span_of" "span_of" (defArgs s_span_of) (defBody s_span_of) (defScope s_span_of) .none kV12 dc12 pm12 an12 cd12 ct12), sl12⟩)
    (c12 : PySem.W.codeIn K cd12 "span_of" = true)
    (k12 : PySem.W.keepIn K (.ref f12) = true)
    (a13 : PySem.W.nsIn K mainGlobals "is_plan" = some (some (.ref f13)))
    (l13 : K.lookup f13 = some ⟨oc13, od13, .func (PySem.W.fnOf "is_plan" "is_plan" (defArgs s_is_plan) (defBody s_is_plan) (defScope s_is_plan) .none kV13 dc13 pm13 an13 cd13 ct13), sl13⟩)
    (c13 : PySem.W.codeIn K cd13 "is_plan" = true)
    (k13 : PySem.W.keepIn K (.ref f13) = true)
    (a14 : PySem.W.nsIn K mainGlobals "need_plan" = some (some (.ref f14)))
    (l14 : K.lookup f14 = some ⟨oc14, od14, .func (PySem.W.fnOf "need_plan" "need_plan" (defArgs s_need_plan) (defBody s_need_plan) (defScope s_need_plan) .none kV14 dc14 pm14 an14 cd14 ct14), sl14⟩)
    (c14 : PySem.W.codeIn K cd14 "need_plan" = true)
    (k14 : PySem.W.keepIn K (.ref f14) = true)
    (a15 : PySem.W.nsIn K mainGlobals "copied" = some (some (.ref f15)))
    (l15 : K.lookup f15 = some ⟨oc15, od15, .func (PySem.W.fnOf "copied" "copied" (defArgs s_copied) (defBody s_copied) (defScope s_copied) .none kV15 dc15 pm15 an15 cd15 ct15), sl15⟩)
    (c15 : PySem.W.codeIn K cd15 "copied" = true)
    (k15 : PySem.W.keepIn K (.ref f15) = true)
    (a16 : PySem.W.nsIn K mainGlobals "owned_by" = some (some (.ref f16)))
    (l16 : K.lookup f16 = some ⟨oc16, od16, .func (PySem.W.fnOf "owned_by" "owned_by" (defArgs s_owned_by) (defBody s_owned_by) (defScope s_owned_by) .none kV16 dc16 pm16 an16 cd16 ct16), sl16⟩)
    (c16 : PySem.W.codeIn K cd16 "owned_by" = true)
    (k16 : PySem.W.keepIn K (.ref f16) = true)
    (a17 : PySem.W.nsIn K mainGlobals "cost_of" = some (some (.ref f17)))
    (l17 : K.lookup f17 = some ⟨oc17, od17, .func (PySem.W.fnOf "cost_of" "cost_of" (defArgs s_cost_of) (defBody s_cost_of) (defScope s_cost_of) .none kV17 dc17 pm17 an17 cd17 ct17), sl17⟩)
    (c17 : PySem.W.codeIn K cd17 "cost_of" = true)
    (k17 : PySem.W.keepIn K (.ref f17) = true)
    (a18 : PySem.W.nsIn K mainGlobals "cost" = some (some (.ref f18)))
    (l18 : K.lookup f18 = some ⟨oc18, od18, .func (PySem.W.fnOf "cost" "cost" (defArgs s_cost) (defBody s_cost) (defScope s_cost) .none kV18 dc18 pm18 an18 cd18 ct18), sl18⟩)
    (c18 : PySem.W.codeIn K cd18 "cost" = true)
    (k18 : PySem.W.keepIn K (.ref f18) = true)
    (a19 : PySem.W.nsIn K mainGlobals "cheapest" = some (some (.ref f19)))
    (l19 : K.lookup f19 = some ⟨oc19, od19, .func (PySem.W.fnOf "cheapest" "cheapest" (defArgs s_cheapest) (defBody s_cheapest) (defScope s_cheapest) .none kV19 dc19 pm19 an19 cd19 ct19), sl19⟩)
    (c19 : PySem.W.codeIn K cd19 "cheapest" = true)
    (k19 : PySem.W.keepIn K (.ref f19) = true)
    (a20 : PySem.W.nsIn K mainGlobals "law" = some (some (.ref f20)))
    (l20 : K.lookup f20 = some ⟨oc20, od20, .func (PySem.W.fnOf "law" "law" (defArgs s_law) (defBody s_law) (defScope s_law) .none kV20 dc20 pm20 an20 cd20 ct20), sl20⟩)
    (c20 : PySem.W.codeIn K cd20 "law" = true)
    (k20 : PySem.W.keepIn K (.ref f20) = true)
    (g_MOST_LAYERS : PySem.W.nsIn K mainGlobals "MOST_LAYERS" = some (some (.int 8 t_MOST_LAYERS)))
    (g_KINDS : PySem.W.nsIn K mainGlobals "KINDS" = some (some (.ref p_KINDS)))
    (h_KINDS : K.lookup p_KINDS = some ⟨.type "tuple", dd_KINDS, .seq [.str "down" t_KINDS0, .str "up" t_KINDS1].toArray n_KINDS, sl_KINDS⟩)
    (z_abs : PySem.W.nsIn K mainGlobals "abs" = some none)
    (z_int : PySem.W.nsIn K mainGlobals "int" = some none)
    (z_len : PySem.W.nsIn K mainGlobals "len" = some none)
    (z_tuple : PySem.W.nsIn K mainGlobals "tuple" = some none)
    (z_range : PySem.W.nsIn K mainGlobals "range" = some none)
    (z_isinstance : PySem.W.nsIn K mainGlobals "isinstance" = some none)
    (z_bool : PySem.W.nsIn K mainGlobals "bool" = some none)
    (z_list : PySem.W.nsIn K mainGlobals "list" = some none)
    (z_sorted : PySem.W.nsIn K mainGlobals "sorted" = some none)
    (z_set : PySem.W.nsIn K mainGlobals "set" = some none)
    (z_all : PySem.W.nsIn K mainGlobals "all" = some none)
    (z_str : PySem.W.nsIn K mainGlobals "str" = some none)
    (z_min : PySem.W.nsIn K mainGlobals "min" = some none)
    (z_repr : PySem.W.nsIn K mainGlobals "repr" = some none)
    : ∃ (fd : FuncData) (CA : CAs), CA.T = [] ∧ (∀ (s : Shared) (v : Value), BindsTo s fd ⟨[v], []⟩ [("_law_script", v)]) ∧ ∀ base : Heap, K.In base → base.Ns mainGlobals mg → SM base → FnG l.prog w K mg base true 21 fa fd ["_law_script"] (spD K CA 1 F_law) := by
  have e := hfa.symm.trans (PySem.W.mg_of X G a20)
  cases e
  have T : Txt mg := ⟨PySem.W.mg_none_of X G z_abs, PySem.W.mg_none_of X G z_int, PySem.W.mg_none_of X G z_len, PySem.W.mg_none_of X G z_tuple, PySem.W.mg_none_of X G z_range, PySem.W.mg_none_of X G z_isinstance, PySem.W.mg_none_of X G z_bool, PySem.W.mg_none_of X G z_list, PySem.W.mg_none_of X G z_sorted, PySem.W.mg_none_of X G z_set, PySem.W.mg_none_of X G z_all, PySem.W.mg_none_of X G z_str, PySem.W.mg_none_of X G z_min, PySem.W.mg_none_of X G z_repr⟩
  let CA : CAs := ⟨fun _ => 0, []⟩
  have C : Cst K CA mg := ⟨gv_int (PySem.W.mg_of X G g_MOST_LAYERS), gv_wr (PySem.W.mg_of X G g_KINDS) (.tup h_KINDS (.cons (.str "down" _) (.cons (.str "up" _) (.nil))) (show 2 ≤ sizeLine by decide))⟩
  have Kt : KtOk K CA [] ktB := ktB_ok
  refine ⟨PySem.W.fnOf "law" "law" (defArgs s_law) (defBody s_law) (defScope s_law) .none kV20 dc20 pm20 an20 cd20 ct20, CA, rfl, fun s v => .of_eq rfl, fun base _ _ SMb => ?_⟩
  have F0 := fun_mk (st := s__law_begun) l0 c0 k0
  have D__law_begun : Df l.prog w K mg base CA "_law_begun" false 1 ["_law_script"] F__law_begun _ _ := Df.of F0 (ok__law_begun F0 T SMb C Kt ) (PySem.W.mg_of X G a0)
  have F1 := fun_mk (st := s__law_mixed) l1 c1 k1
  have D__law_mixed : Df l.prog w K mg base CA "_law_mixed" false 1 ["_law_draw"] F__law_mixed _ _ := Df.of F1 (ok__law_mixed F1 T SMb C Kt ) (PySem.W.mg_of X G a1)
  have F2 := fun_mk (st := s__law_take) l2 c2 k2
  have B__law_mixed_1 : KwB K CA _ ["_law_draw"] 1 [] (srcP 0 1) := KwB.fn F1 rfl (fun _ _ _ _ _ _ us ws h1 h2 => match us, ws, h1, h2 with | [_], [], _, _ => rfl)
  have D__law_take : Df l.prog w K mg base CA "_law_take" false 2 ["_law_draw", "_law_size"] F__law_take _ _ := Df.of F2 (ok__law_take F2 T SMb C Kt B__law_mixed_1 D__law_mixed) (PySem.W.mg_of X G a2)
  have F3 := fun_mk (st := s__law_pick) l3 c3 k3
  have B__law_take_2 : KwB K CA _ ["_law_draw", "_law_size"] 2 [] (srcP 0 2) := KwB.fn F2 rfl (fun _ _ _ _ _ _ us ws h1 h2 => match us, ws, h1, h2 with | [_, _], [], _, _ => rfl)
  have D__law_pick : Df l.prog w K mg base CA "_law_pick" false 3 ["_law_draw", "_law_some"] F__law_pick _ _ := Df.of F3 (ok__law_pick F3 T SMb C Kt B__law_take_2 D__law_take) (PySem.W.mg_of X G a3)
  have F4 := fun_mk (st := s__law_owned) l4 c4 k4
  have D__law_owned : Df l.prog w K mg base CA "_law_owned" false 3 ["_law_draw", "_law_most"] F__law_owned _ _ := Df.of F4 (ok__law_owned F4 T SMb C Kt B__law_take_2 D__law_take) (PySem.W.mg_of X G a4)
  have F5 := fun_mk (st := s__law_chain) l5 c5 k5
  have B__law_pick_2 : KwB K CA _ ["_law_draw", "_law_some"] 2 [] (srcP 0 2) := KwB.fn F3 rfl (fun _ _ _ _ _ _ us ws h1 h2 => match us, ws, h1, h2 with | [_, _], [], _, _ => rfl)
  have B__law_owned_2 : KwB K CA _ ["_law_draw", "_law_most"] 2 [] (srcP 0 2) := KwB.fn F4 rfl (fun _ _ _ _ _ _ us ws h1 h2 => match us, ws, h1, h2 with | [_, _], [], _, _ => rfl)
  have D__law_chain : Df l.prog w K mg base CA "_law_chain" false 4 ["_law_draw", "_law_least", "_law_most"] F__law_chain _ _ := Df.of F5 (ok__law_chain F5 T SMb C Kt B__law_pick_2 D__law_pick B__law_take_2 D__law_take B__law_owned_2 D__law_owned) (PySem.W.mg_of X G a5)
  have F6 := fun_mk (st := s__law_plan) l6 c6 k6
  have B__law_plan_3 : KwB K CA _ ["_law_draw", "_law_first", "_law_last"] 3 [] (srcP 0 3) := KwB.fn F6 rfl (fun _ _ _ _ _ _ us ws h1 h2 => match us, ws, h1, h2 with | [_, _, _], [], _, _ => rfl)
  have D__law_plan_ : ∀ j, Df l.prog w K mg base CA "_law_plan" false (3 + j) ["_law_draw", "_law_first", "_law_last"] (F__law_plan_ j) f6 (PySem.W.fnOf "_law_plan" "_law_plan" (defArgs s__law_plan) (defBody s__law_plan) (defScope s__law_plan) .none kV6 dc6 pm6 an6 cd6 ct6) := fun j => by
    induction j with
    | zero => exact ⟨.none, PySem.W.mg_of X G a6, k6⟩
    | succ j ih => exact Df.of F6 (ok__law_plan j F6 T SMb C Kt B__law_take_2 D__law_take B__law_pick_2 D__law_pick B__law_plan_3 ih) (PySem.W.mg_of X G a6)
  have D__law_plan : Df l.prog w K mg base CA "_law_plan" false 12 ["_law_draw", "_law_first", "_law_last"] F__law_plan f6 (PySem.W.fnOf "_law_plan" "_law_plan" (defArgs s__law_plan) (defBody s__law_plan) (defScope s__law_plan) .none kV6 dc6 pm6 an6 cd6 ct6) := D__law_plan_ 9
  have F7 := fun_mk (st := s__law_is_cell) l7 c7 k7
  have D__law_is_cell : Df l.prog w K mg base CA "_law_is_cell" false 1 ["_law_thing"] F__law_is_cell _ _ := Df.of F7 (ok__law_is_cell F7 T SMb C Kt ) (PySem.W.mg_of X G a7)
  have F8 := fun_mk (st := s__law_worth) l8 c8 k8
  have B__law_is_cell_1 : KwB K CA _ ["_law_thing"] 1 [] (srcP 0 1) := KwB.fn F7 rfl (fun _ _ _ _ _ _ us ws h1 h2 => match us, ws, h1, h2 with | [_], [], _, _ => rfl)
  have B__law_worth_2 : KwB K CA _ ["_law_chain_of", "_law_plan_of"] 2 [] (srcP 0 2) := KwB.fn F8 rfl (fun _ _ _ _ _ _ us ws h1 h2 => match us, ws, h1, h2 with | [_, _], [], _, _ => rfl)
  have D__law_worth_ : ∀ j, Df l.prog w K mg base CA "_law_worth" false (1 + j) ["_law_chain_of", "_law_plan_of"] (F__law_worth_ j) f8 (PySem.W.fnOf "_law_worth" "_law_worth" (defArgs s__law_worth) (defBody s__law_worth) (defScope s__law_worth) .none kV8 dc8 pm8 an8 cd8 ct8) := fun j => by
    induction j with
    | zero => exact ⟨.none, PySem.W.mg_of X G a8, k8⟩
    | succ j ih => exact Df.of F8 (ok__law_worth j F8 T SMb C Kt B__law_is_cell_1 D__law_is_cell B__law_worth_2 ih) (PySem.W.mg_of X G a8)
  have D__law_worth : Df l.prog w K mg base CA "_law_worth" false 10 ["_law_chain_of", "_law_plan_of"] F__law_worth f8 (PySem.W.fnOf "_law_worth" "_law_worth" (defArgs s__law_worth) (defBody s__law_worth) (defScope s__law_worth) .none kV8 dc8 pm8 an8 cd8 ct8) := D__law_worth_ 9
  have F9 := fun_mk (st := s_is_cell) l9 c9 k9
  have D_is_cell : Df l.prog w K mg base CA "is_cell" false 1 ["thing"] F_is_cell _ _ := Df.of F9 (ok_is_cell F9 T SMb C Kt ) (PySem.W.mg_of X G a9)
  have F10 := fun_mk (st := s_is_owned) l10 c10 k10
  have B_is_cell_1 : KwB K CA _ ["thing"] 1 [] (srcP 0 1) := KwB.fn F9 rfl (fun _ _ _ _ _ _ us ws h1 h2 => match us, ws, h1, h2 with | [_], [], _, _ => rfl)
  have D_is_owned : Df l.prog w K mg base CA "is_owned" false 2 ["thing"] F_is_owned _ _ := Df.of F10 (ok_is_owned F10 T SMb C Kt B_is_cell_1 D_is_cell) (PySem.W.mg_of X G a10)
  have F11 := fun_mk (st := s_need_chain) l11 c11 k11
  have B_is_owned_1 : KwB K CA _ ["thing"] 1 [] (srcP 0 1) := KwB.fn F10 rfl (fun _ _ _ _ _ _ us ws h1 h2 => match us, ws, h1, h2 with | [_], [], _, _ => rfl)
  have D_need_chain : Df l.prog w K mg base CA "need_chain" false 3 ["chain"] F_need_chain _ _ := Df.of F11 (ok_need_chain F11 T SMb C Kt B_is_owned_1 D_is_owned) (PySem.W.mg_of X G a11)
  have F12 := fun_mk (st := s_span_of) l12 c12 k12
  have B_span_of_2 : KwB K CA _ ["many", "thing"] 2 [] (srcP 0 2) := KwB.fn F12 rfl (fun _ _ _ _ _ _ us ws h1 h2 => match us, ws, h1, h2 with | [_, _], [], _, _ => rfl)
  have D_span_of_ : ∀ j, Df l.prog w K mg base CA "span_of" false (1 + j) ["many", "thing"] (F_span_of_ j) f12 (PySem.W.fnOf "span_of" "span_of" (defArgs s_span_of) (defBody s_span_of) (defScope s_span_of) .none kV12 dc12 pm12 an12 cd12 ct12) := fun j => by
    induction j with
    | zero => exact ⟨.none, PySem.W.mg_of X G a12, k12⟩
    | succ j ih => exact Df.of F12 (ok_span_of j F12 T SMb C Kt B_is_cell_1 D_is_cell B_span_of_2 ih) (PySem.W.mg_of X G a12)
  have D_span_of : Df l.prog w K mg base CA "span_of" false 10 ["many", "thing"] F_span_of f12 (PySem.W.fnOf "span_of" "span_of" (defArgs s_span_of) (defBody s_span_of) (defScope s_span_of) .none kV12 dc12 pm12 an12 cd12 ct12) := D_span_of_ 9
  have F13 := fun_mk (st := s_is_plan) l13 c13 k13
  have B_need_chain_1 : KwB K CA _ ["chain"] 1 [] (srcP 0 1) := KwB.fn F11 rfl (fun _ _ _ _ _ _ us ws h1 h2 => match us, ws, h1, h2 with | [_], [], _, _ => rfl)
  have D_is_plan : Df l.prog w K mg base CA "is_plan" false 11 ["chain", "thing"] F_is_plan _ _ := Df.of F13 (ok_is_plan F13 T SMb C Kt B_need_chain_1 D_need_chain B_span_of_2 D_span_of) (PySem.W.mg_of X G a13)
  have F14 := fun_mk (st := s_need_plan) l14 c14 k14
  have B_is_plan_2 : KwB K CA _ ["chain", "thing"] 2 [] (srcP 0 2) := KwB.fn F13 rfl (fun _ _ _ _ _ _ us ws h1 h2 => match us, ws, h1, h2 with | [_, _], [], _, _ => rfl)
  have D_need_plan : Df l.prog w K mg base CA "need_plan" false 12 ["chain", "plan"] F_need_plan _ _ := Df.of F14 (ok_need_plan F14 T SMb C Kt B_is_plan_2 D_is_plan) (PySem.W.mg_of X G a14)
  have F15 := fun_mk (st := s_copied) l15 c15 k15
  have D_copied : Df l.prog w K mg base CA "copied" false 1 ["kind", "lower", "upper"] F_copied _ _ := Df.of F15 (ok_copied F15 T SMb C Kt ) (PySem.W.mg_of X G a15)
  have F16 := fun_mk (st := s_owned_by) l16 c16 k16
  have D_owned_by : Df l.prog w K mg base CA "owned_by" false 1 ["chain", "first", "last"] F_owned_by _ _ := Df.of F16 (ok_owned_by F16 T SMb C Kt ) (PySem.W.mg_of X G a16)
  have F17 := fun_mk (st := s_cost_of) l17 c17 k17
  have B_copied_3 : KwB K CA _ ["kind", "lower", "upper"] 3 [] (srcP 0 3) := KwB.fn F15 rfl (fun _ _ _ _ _ _ us ws h1 h2 => match us, ws, h1, h2 with | [_, _, _], [], _, _ => rfl)
  have B_owned_by_3 : KwB K CA _ ["chain", "first", "last"] 3 [] (srcP 0 3) := KwB.fn F16 rfl (fun _ _ _ _ _ _ us ws h1 h2 => match us, ws, h1, h2 with | [_, _, _], [], _, _ => rfl)
  have B_cost_of_2 : KwB K CA _ ["chain", "plan"] 2 [] (srcP 0 2) := KwB.fn F17 rfl (fun _ _ _ _ _ _ us ws h1 h2 => match us, ws, h1, h2 with | [_, _], [], _, _ => rfl)
  have D_cost_of_ : ∀ j, Df l.prog w K mg base CA "cost_of" false (10 + j) ["chain", "plan"] (F_cost_of_ j) f17 (PySem.W.fnOf "cost_of" "cost_of" (defArgs s_cost_of) (defBody s_cost_of) (defScope s_cost_of) .none kV17 dc17 pm17 an17 cd17 ct17) := fun j => by
    induction j with
    | zero => exact ⟨.none, PySem.W.mg_of X G a17, k17⟩
    | succ j ih => exact Df.of F17 (ok_cost_of j F17 T SMb C Kt B_is_cell_1 D_is_cell B_span_of_2 D_span_of B_copied_3 D_copied B_owned_by_3 D_owned_by B_cost_of_2 ih) (PySem.W.mg_of X G a17)
  have D_cost_of : Df l.prog w K mg base CA "cost_of" false 19 ["chain", "plan"] F_cost_of f17 (PySem.W.fnOf "cost_of" "cost_of" (defArgs s_cost_of) (defBody s_cost_of) (defScope s_cost_of) .none kV17 dc17 pm17 an17 cd17 ct17) := D_cost_of_ 9
  have F18 := fun_mk (st := s_cost) l18 c18 k18
  have B_need_plan_2 : KwB K CA _ ["chain", "plan"] 2 [] (srcP 0 2) := KwB.fn F14 rfl (fun _ _ _ _ _ _ us ws h1 h2 => match us, ws, h1, h2 with | [_, _], [], _, _ => rfl)
  have D_cost : Df l.prog w K mg base CA "cost" false 20 ["chain", "plan"] F_cost _ _ := Df.of F18 (ok_cost F18 T SMb C Kt B_need_plan_2 D_need_plan B_cost_of_2 D_cost_of) (PySem.W.mg_of X G a18)
  have F19 := fun_mk (st := s_cheapest) l19 c19 k19
  have D_cheapest : Df l.prog w K mg base CA "cheapest" false 4 ["chain"] F_cheapest _ _ := Df.of F19 (ok_cheapest F19 T SMb C Kt B_need_chain_1 D_need_chain B_owned_by_3 D_owned_by B_copied_3 D_copied) (PySem.W.mg_of X G a19)
  have F20 := fun_mk (st := s_law) l20 c20 k20
  have B__law_begun_1 : KwB K CA _ ["_law_script"] 1 [] (srcP 0 1) := KwB.fn F0 rfl (fun _ _ _ _ _ _ us ws h1 h2 => match us, ws, h1, h2 with | [_], [], _, _ => rfl)
  have B__law_chain_3 : KwB K CA _ ["_law_draw", "_law_least", "_law_most"] 3 [] (srcP 0 3) := KwB.fn F5 rfl (fun _ _ _ _ _ _ us ws h1 h2 => match us, ws, h1, h2 with | [_, _, _], [], _, _ => rfl)
  have B_cost_0_plan_chain : KwB K CA _ ["chain", "plan"] 0 ["plan", "chain"] ([.k 1, .k 0]) := KwB.fn F18 rfl (fun _ _ _ _ _ _ us ws h1 h2 => match us, ws, h1, h2 with | [], [_, _], _, _ => rfl)
  have B_cost_2 : KwB K CA _ ["chain", "plan"] 2 [] (srcP 0 2) := KwB.fn F18 rfl (fun _ _ _ _ _ _ us ws h1 h2 => match us, ws, h1, h2 with | [_, _], [], _, _ => rfl)
  have B_cheapest_1 : KwB K CA _ ["chain"] 1 [] (srcP 0 1) := KwB.fn F19 rfl (fun _ _ _ _ _ _ us ws h1 h2 => match us, ws, h1, h2 with | [_], [], _, _ => rfl)
  exact ok_law F20 T SMb C Kt B__law_begun_1 D__law_begun B__law_chain_3 D__law_chain B__law_plan_3 D__law_plan B__law_worth_2 D__law_worth B_cost_0_plan_chain D_cost B_cost_2 B_cheapest_1 D_cheapest
end
end W_whilemerged_k61_costs_of_plans
namespace W_whilemerged_k61_costs_of_plans
open PySem PySem.Spec PyProof.Rows L2 CM
/-! ### rows of cells -/
abbrev tupI (l : List Int) : D := .tup (l.map D.int)
def ten : List Int := [0, 1, 2, 3, 4, 5, 6, 7, 8, 9]
def InTen (l : List Int) : Prop := ∀ x ∈ l, x ∈ ten
structure Own (l : List Int) : Prop where
  lt : l.Pairwise (· < ·)
  bd : InTen l
theorem nd_of_lt {l : List Int} (h : l.Pairwise (· < ·)) : l.Nodup := h.imp fun q e => by omega
theorem len_ten {l : List Int} (n : l.Nodup) (b : InTen l) : l.length ≤ 10 := List.Nodup.length_le_of_subset (l₂ := ten) n b
theorem Own.len {l : List Int} (o : Own l) : l.length ≤ 10 := len_ten (nd_of_lt o.lt) o.bd
theorem ten_bd {x : Int} (m : x ∈ ten) : 0 ≤ x ∧ x < 10 := by
  simp only [ten, List.mem_cons, List.not_mem_nil, or_false] at m
  omega
theorem bd_ten {x : Int} (h0 : 0 ≤ x) (h1 : x < 10) : x ∈ ten := by
  simp only [ten, List.mem_cons, List.not_mem_nil, or_false]
  omega
theorem insU_id {x : Int} {l : List Int} (h : ∀ y ∈ l, x < y) : insU x l = x :: l := by
  cases l with
  | nil => rfl
  | cons y r =>
    unfold insU
    rw [if_pos (h y (List.mem_cons_self ..))]
theorem sortU_id : ∀ {l : List Int}, l.Pairwise (· < ·) → sortU l = l
  | [], _ => rfl
  | x :: r, h => by
    have h2 := List.pairwise_cons.mp h
    show insU x (sortU r) = _
    rw [sortU_id h2.2, insU_id h2.1]
theorem intsOf_map : ∀ l : List Int, intsOf (l.map D.int) = some l
  | [] => rfl
  | x :: l => by
    show (match intsOf (l.map D.int) with | some is => some (x :: is) | none => none) = _
    rw [intsOf_map l]
theorem blsOf_map : ∀ l : List Bool, blsOf (l.map D.bl) = some l
  | [] => rfl
  | x :: l => by
    show (match blsOf (l.map D.bl) with | some is => some (x :: is) | none => none) = _
    rw [blsOf_map l]
/-- a comprehension that leaves the heap as it is -/
theorem lcL_fil {α : Type} {tg : TGD} {tt : TB} {te : TD} {ρ0 : DE} {h : CH} {F G : α → D} {g : α → Bool} : ∀ {A : List α}, (∀ x ∈ A, ∃ ρ2, tg (F x) ρ0 h = .ok ρ2 h ∧ tt ρ2 h = .ok (g x) h ∧ (g x = true → te ρ2 h = .ok (G x) h)) → dLcL tg tt te ρ0 (A.map F) h = .ok ((A.filter g).map G) h
  | [], _ => rfl
  | x :: A, q => by
    obtain ⟨ρ2, e1, e2, e3⟩ := q x (List.mem_cons_self ..)
    have ih := lcL_fil (tg := tg) (tt := tt) (te := te) (ρ0 := ρ0) (h := h) (F := F) (G := G) (g := g) (A := A) fun y hy => q y (List.mem_cons_of_mem _ hy)
    rw [List.map_cons]
    show (tg (F x) ρ0 h).calm _ = _
    rw [e1, calm_ok, e2, calm_ok]
    cases eg : g x with
    | true =>
      rw [if_pos rfl, e3 eg, calm_ok, ih, bind_ok, List.filter_cons_of_pos eg]
      rfl
    | false =>
      rw [if_neg Bool.false_ne_true, ih, List.filter_cons_of_neg (by rw [eg]; exact Bool.false_ne_true)]
section
variable {h : CH} {ρ : DE}
theorem eqvAllI : ∀ ns : List Int, PyData.eqvAll (ns.map PyData.int) (ns.map PyData.int) = true
  | [] => rfl
  | n :: ns => by
    have e1 : PyData.eqv (.int n) (.int n) = true := by simp [PyData.eqv]
    have e2 := eqvAllI ns
    simp only [List.map_cons, PyData.eqvAll, e1, e2, Bool.and_self]
theorem eq_lstI (ns : List Int) : fEq false (.lst (ns.map D.int)) (.lst (ns.map D.int)) h = .ok (.bl true) h := by
  have e : toP h 10 (.lst (ns.map D.int)) = some (.list (ns.map PyData.int)) := by
    show ((ns.map D.int).mapM (toP h 9)).map PyData.list = _
    rw [toP_ints ns]
    rfl
  have s := shaped_ints ns
  have q : PyData.eqv (.list (ns.map PyData.int)) (.list (ns.map PyData.int)) = true := eqvAllI ns
  unfold fEq
  rw [if_neg (by simp [scalD, flatD])]
  simp only [e, s, q, and_self, if_true]
  rfl
theorem is_cell_ok (i : Int) : F_is_cell [.int i] h = .ok (.bl (decide (i ≥ 0))) h := by kernel_rfl
theorem is_cell_tup (xs : List D) : F_is_cell [.tup xs] h = .ok (.bl false) h := by kernel_rfl
theorem is_cell_ok' (i : Int) : F__law_is_cell [.int i] h = .ok (.bl (decide (i ≥ 0))) h := by kernel_rfl
theorem is_cell_tup' (xs : List D) : F__law_is_cell [.tup xs] h = .ok (.bl false) h := by kernel_rfl
theorem is_tup (xs : List D) : fIsi [] ktB [.tup xs, .ty "tuple"] h = .ok (.bl true) h := by kernel_rfl
theorem is_str (x : Str) : fIsi [] ktB [.str x, .ty "str"] h = .ok (.bl true) h := by kernel_rfl
theorem len_ok {xs : List D} (l : xs.length ≤ 100) : xs.length ≤ sizeLine := Nat.le_trans l (by decide)
theorem filter_all {α : Type} {l : List α} {p : α → Bool} (h : ∀ x ∈ l, p x = true) : l.filter p = l := List.filter_eq_self.mpr h
theorem is_owned_ok {l : List Int} (o : Own l) : F_is_owned [tupI l] h = .ok (.bl true) h := by
  have lc : dLcL (gdName 1) dYes (dCall 1 F_is_cell (dCons (dVar 1) (dNil))) [some (tupI l), none] (l.map D.int) h = .ok ((l.filter fun _ => true).map fun _ => D.bl true) h :=
    lcL_fil fun x hx => ⟨[some (tupI l), some (.int x)], rfl, rfl, fun _ => by
      have := (ten_bd (o.bd x hx)).1
      simp [is_cell_ok, this]⟩
  rw [filter_all (fun _ _ => rfl)] at lc
  have ll : l.length ≤ sizeLine := Nat.le_trans o.len (by decide)
  have e1 : fAllB false [.lst (l.map fun _ => D.bl true)] h = .ok (.bl true) h := by
    have : (l.map fun _ => D.bl true) = (l.map fun _ => true).map D.bl := by rw [List.map_map]; rfl
    rw [this]
    unfold fAllB
    simp only [lstOf, blsOf_map]
    rw [if_neg Bool.false_ne_true, List.all_eq_true.mpr (fun x hx => by obtain ⟨_, _, rfl⟩ := List.mem_map.mp hx; rfl)]
  have e2 : fListOf false [tupI l] h = .ok (.lst (l.map D.int)) h := rfl
  have e3 : fSortSet false (tupI l) h = .ok (.lst (l.map D.int)) h := by
    unfold fSortSet
    simp only [seqOf, intsOf_map]
    rw [if_pos (by have := o.len; omega), sortU_id o.lt]
    rfl
  unfold F_is_owned bodyF
  show (u_is_owned [some (tupI l), none] h).res = _
  unfold u_is_owned
  simp [is_tup, dLc, itemsD, ll, wipeD, lc, mkL, e1, e2, e3, eq_lstI]
end
structure Chain (rs : List (List Int)) : Prop where
  ne : 1 ≤ rs.length
  le : rs.length ≤ 8
  own : ∀ r ∈ rs, Own r
abbrev rowsD (rs : List (List Int)) : List D := rs.map tupI
/-- a chain: a list or a tuple -/
def ChD (rs : List (List Int)) (X : D) : Prop := X = .lst (rowsD rs) ∨ X = .tup (rowsD rs)
section
variable {h : CH} {rs : List (List Int)} {X : D}
theorem ChD.seq (c : ChD rs X) : seqOf h X = some (rowsD rs) := by rcases c with rfl | rfl <;> rfl
theorem ChD.items (c : ChD rs X) : itemsD h X = some (rowsD rs) := by rcases c with rfl | rfl <;> rfl
theorem ChD.len (c : ChD rs X) : fLen [X] h = .ok (.int rs.length) h := by
  rcases c with rfl | rfl
  · simp [fLen, seqOf]
  · simp [fLen, seqOf]
theorem ChD.isT (c : ChD rs X) : fIsT [] ktB [X, .tup [.ty "list", .ty "tuple"]] h = .ok (.bl true) h := by rcases c with rfl | rfl <;> kernel_rfl
theorem need_chain_ok (C : Chain rs) (c : ChD rs X) : F_need_chain [X] h = .ok .non h := by
  have lc : dLcL (gdName 1) dYes (dCall 1 F_is_owned (dCons (dVar 1) (dNil))) [some X, none] (rowsD rs) h = .ok ((rs.filter fun _ => true).map fun _ => D.bl true) h :=
    lcL_fil fun x hx => ⟨[some X, some (tupI x)], rfl, rfl, fun _ => by simp [is_owned_ok (C.own x hx)]⟩
  rw [filter_all (fun _ _ => rfl)] at lc
  have ll : rs.length ≤ sizeLine := Nat.le_trans C.le (by decide)
  have e1 : fAllB false [.lst (rs.map fun _ => D.bl true)] h = .ok (.bl true) h := by
    have : (rs.map fun _ => D.bl true) = (rs.map fun _ => true).map D.bl := by rw [List.map_map]; rfl
    rw [this]
    unfold fAllB
    simp only [lstOf, blsOf_map]
    rw [if_neg Bool.false_ne_true, List.all_eq_true.mpr (fun x hx => by obtain ⟨_, _, rfl⟩ := List.mem_map.mp hx; rfl)]
  have b1 : decide ((1 : Int) ≤ rs.length) = true := decide_eq_true (by have := C.ne; omega)
  have b2 : decide ((rs.length : Int) ≤ 8) = true := decide_eq_true (by have := C.le; omega)
  unfold F_need_chain bodyF
  show (u_need_chain [some X, none] h).res = _
  unfold u_need_chain
  rw [s_seq, s_if]
  simp only [e_or, e_not, e_B, e_CB, e_cons, e_var, e_tup, e_C, e_nil, bind_ok, List.getElem?_cons_zero, List.length_cons, List.length_nil, Nat.zero_add, Nat.reduceAdd]
  rw [if_pos (by decide), bind_ok, bind_ok, bind_ok, c.isT]
  simp only [bind_ok, asB_bl, Bool.not_true, Bool.false_eq_true, if_false]
  simp only [dChain, e_C, e_CB, e_cons, e_var, e_nil, bind_ok, List.getElem?_cons_zero, c.len, fB, b1, b2, asB_bl, if_true, toS_ok, Bool.not_true, Bool.false_eq_true, if_false, s_next, sbind_nx, s_if, e_not, e_B]
  simp only [dLc, e_seqI, e_var, List.getElem?_cons_zero, bind_ok, c.items, List.length_map, ll, if_true, wipeD, List.foldl_cons, List.foldl_nil, List.set_cons_zero, List.set_cons_succ, lc, mkL, runl_none, e1, asB_bl, toS_ok, Bool.not_true, Bool.false_eq_true, if_false, s_next, res_nx]
end
end W_whilemerged_k61_costs_of_plans
namespace W_whilemerged_k61_costs_of_plans
open PySem PySem.Spec PyProof.Rows L2 CM
/-! ### plans -/
inductive Pl where
  | leaf (i : Int)
  | node (k : Bool) (a b : Pl)
def kS (k : Bool) : Str := if k then "down" else "up"
def Pl.D : Pl → CM.D
  | .leaf i => .int i
  | .node k a b => .tup [.str (kS k), a.D, b.D]
def Sp : Pl → Int → Int → Prop
  | .leaf i, f, l => i = f ∧ i = l
  | .node _ a b, f, l => ∃ m, Sp a f m ∧ Sp b (m + 1) l
theorem Sp.le : ∀ {p : Pl} {f l : Int}, Sp p f l → f ≤ l
  | .leaf _, _, _, h => by have := h.1; have := h.2; omega
  | .node _ a b, f, l, h => by
    obtain ⟨m, h1, h2⟩ := h
    have := h1.le
    have := h2.le
    omega
/-! ### cells of some rows -/
def slice (rs : List (List Int)) (f l : Int) : List (List Int) := (rs.drop f.toNat).take (l + 1 - f).toNat
def In (rs : List (List Int)) (f l : Int) (x : Int) : Prop := ∃ i : Nat, f ≤ i ∧ (i : Int) ≤ l ∧ ∃ r, rs[i]? = some r ∧ x ∈ r
theorem mem_slice {rs : List (List Int)} {f l : Int} (h0 : 0 ≤ f) (x : Int) : (∃ r ∈ slice rs f l, x ∈ r) ↔ In rs f l x := by
  constructor
  · rintro ⟨r, hr, hx⟩
    obtain ⟨j, hj⟩ := List.mem_iff_getElem?.mp hr
    unfold slice at hj
    rw [List.getElem?_take] at hj
    split at hj
    · rename_i lt
      rw [List.getElem?_drop] at hj
      exact ⟨f.toNat + j, by omega, by omega, r, hj, hx⟩
    · cases hj
  · rintro ⟨i, h1, h2, r, hr, hx⟩
    refine ⟨r, List.mem_iff_getElem?.mpr ⟨i - f.toNat, ?_⟩, hx⟩
    unfold slice
    rw [List.getElem?_take, if_pos (by omega), List.getElem?_drop, ← hr]
    congr 1
    omega
def ad (acc : List Int) (c : Int) : List Int := if c ∈ acc then acc else acc ++ [c]
def adF (acc : List Int) (cs : List Int) : List Int := cs.foldl ad acc
def ob (rs : List (List Int)) (f l : Int) : List Int := (slice rs f l).foldl adF []
theorem mem_ad {acc : List Int} {c x : Int} : x ∈ ad acc c ↔ x ∈ acc ∨ x = c := by
  unfold ad
  split
  · exact ⟨.inl, fun h => h.elim id fun e => e ▸ by assumption⟩
  · simp
theorem nd_ad {acc : List Int} {c : Int} (n : acc.Nodup) : (ad acc c).Nodup := by
  unfold ad
  split
  · exact n
  · rename_i h
    rw [List.nodup_append]
    exact ⟨n, by simp, fun a ha b hb => by
      rw [List.mem_singleton.mp hb]
      intro e
      exact h (e ▸ ha)⟩
theorem mem_adF {x : Int} : ∀ {cs acc : List Int}, x ∈ adF acc cs ↔ x ∈ acc ∨ x ∈ cs
  | [], acc => by simp [adF]
  | c :: cs, acc => by
    show x ∈ adF (ad acc c) cs ↔ _
    rw [mem_adF, mem_ad, List.mem_cons, or_assoc]
theorem nd_adF : ∀ {cs acc : List Int}, acc.Nodup → (adF acc cs).Nodup
  | [], _, n => n
  | c :: cs, acc, n => nd_adF (cs := cs) (nd_ad (c := c) n)
theorem mem_adR {x : Int} : ∀ {rs : List (List Int)} {acc : List Int}, x ∈ rs.foldl adF acc ↔ x ∈ acc ∨ ∃ r ∈ rs, x ∈ r
  | [], acc => by simp
  | r :: rs, acc => by
    show x ∈ rs.foldl adF (adF acc r) ↔ _
    rw [mem_adR, mem_adF]
    simp [or_assoc]
theorem nd_adR : ∀ {rs : List (List Int)} {acc : List Int}, acc.Nodup → (rs.foldl adF acc).Nodup
  | [], _, n => n
  | r :: rs, acc, n => nd_adR (rs := rs) (nd_adF (cs := r) n)
theorem mem_ob {rs : List (List Int)} {f l x : Int} (h0 : 0 ≤ f) : x ∈ ob rs f l ↔ In rs f l x := by
  unfold ob
  rw [mem_adR, mem_slice h0]
  simp
theorem nd_ob {rs : List (List Int)} {f l : Int} : (ob rs f l).Nodup := nd_adR List.nodup_nil
/-! ### what is copied -/
def cp (k : Bool) (A B : List Int) : Int := if k then (B.length : Int) else ((A.filter fun x => !B.contains x).length : Int)
theorem len_same {A B : List Int} (a : A.Nodup) (b : B.Nodup) (e : ∀ x, x ∈ A ↔ x ∈ B) : A.length = B.length :=
  Nat.le_antisymm (List.Nodup.length_le_of_subset a fun x h => (e x).mp h) (List.Nodup.length_le_of_subset b fun x h => (e x).mpr h)
theorem cp_same {k : Bool} {A A' B B' : List Int} (a : A.Nodup) (a' : A'.Nodup) (b : B.Nodup) (b' : B'.Nodup) (ea : ∀ x, x ∈ A ↔ x ∈ A') (eb : ∀ x, x ∈ B ↔ x ∈ B') : cp k A B = cp k A' B' := by
  unfold cp
  cases k with
  | true => rw [if_pos rfl, if_pos rfl, len_same b b' eb]
  | false =>
    rw [if_neg Bool.false_ne_true, if_neg Bool.false_ne_true, len_same (a.sublist List.filter_sublist) (a'.sublist List.filter_sublist)]
    intro x
    simp only [List.mem_filter, ea x, Bool.not_eq_true', List.contains_eq_mem, decide_eq_false_iff_not, eb x]
theorem cp_bd {k : Bool} {A B : List Int} (a : A.Nodup) (b : B.Nodup) (ia : InTen A) (ib : InTen B) : 0 ≤ cp k A B ∧ cp k A B ≤ 10 := by
  unfold cp
  cases k with
  | true =>
    rw [if_pos rfl]
    have := len_ten b ib
    omega
  | false =>
    rw [if_neg Bool.false_ne_true]
    have := len_ten a ia
    have := (List.filter_sublist (p := fun x => !B.contains x) (l := A)).length_le
    omega
/-! ### the law's worth -/
def rowAt (rs : List (List Int)) (i : Int) : List Int := (rs[i.toNat]?).getD []
def Pl.C (rs : List (List Int)) : Pl → List Int
  | .leaf i => rowAt rs i
  | .node _ a b => sortU (a.C rs ++ b.C rs)
def Pl.W (rs : List (List Int)) : Pl → Int
  | .leaf _ => 0
  | .node k a b => a.W rs + b.W rs + cp k (a.C rs) (b.C rs)
section
variable {rs : List (List Int)}
theorem rowAt_eq {i : Int} (h0 : 0 ≤ i) (h1 : i < rs.length) : rs[i.toNat]? = some (rowAt rs i) := by
  unfold rowAt
  rw [List.getElem?_eq_getElem (by omega)]
  rfl
theorem rowAt_mem {i : Int} (h0 : 0 ≤ i) (h1 : i < rs.length) : rowAt rs i ∈ rs := List.mem_iff_getElem?.mpr ⟨_, rowAt_eq h0 h1⟩
theorem C_ok (C : Chain rs) : ∀ {p : Pl} {f l : Int}, Sp p f l → 0 ≤ f → l < rs.length → (p.C rs).Pairwise (· < ·) ∧ ∀ x, x ∈ p.C rs ↔ In rs f l x
  | .leaf i, f, l, s, h0, h1 => by
    obtain ⟨rfl, rfl⟩ := s
    refine ⟨(C.own _ (rowAt_mem h0 h1)).lt, fun x => ⟨fun m => ⟨i.toNat, by omega, by omega, _, rowAt_eq h0 h1, m⟩, ?_⟩⟩
    rintro ⟨j, q1, q2, r, e, m⟩
    have : j = i.toNat := by omega
    rw [this, rowAt_eq h0 h1] at e
    cases e
    exact m
  | .node k a b, f, l, s, h0, h1 => by
    obtain ⟨m, sa, sb⟩ := s
    have la := sa.le
    have lb := sb.le
    obtain ⟨_, ma⟩ := C_ok C sa h0 (by omega)
    obtain ⟨_, mb⟩ := C_ok C sb (by omega) h1
    refine ⟨sortU_lt _, fun x => ?_⟩
    show x ∈ sortU _ ↔ _
    rw [mem_sortU, List.mem_append, ma, mb]
    constructor
    · rintro (⟨i, q1, q2, q⟩ | ⟨i, q1, q2, q⟩)
      · exact ⟨i, q1, by omega, q⟩
      · exact ⟨i, by omega, q2, q⟩
    · rintro ⟨i, q1, q2, q⟩
      by_cases c : (i : Int) ≤ m
      · exact .inl ⟨i, q1, c, q⟩
      · exact .inr ⟨i, by omega, q2, q⟩
theorem in_ten (C : Chain rs) {f l x : Int} : In rs f l x → x ∈ ten := by
  rintro ⟨i, _, _, r, e, m⟩
  exact (C.own r (List.mem_iff_getElem?.mpr ⟨i, e⟩)).bd x m
theorem C_ten (C : Chain rs) {p : Pl} {f l : Int} (s : Sp p f l) (h0 : 0 ≤ f) (h1 : l < rs.length) : InTen (p.C rs) := fun x hx => in_ten C (((C_ok C s h0 h1).2 x).mp hx)
theorem ob_ten (C : Chain rs) {f l : Int} (h0 : 0 ≤ f) : InTen (ob rs f l) := fun x hx => in_ten C ((mem_ob h0).mp hx)
theorem C_nd (C : Chain rs) {p : Pl} {f l : Int} (s : Sp p f l) (h0 : 0 ≤ f) (h1 : l < rs.length) : (p.C rs).Nodup := nd_of_lt (C_ok C s h0 h1).1
theorem cp_C (C : Chain rs) {k : Bool} {a b : Pl} {f m m' l : Int} (sa : Sp a f m) (sb : Sp b m' l) (h0 : 0 ≤ f) (h1 : m < rs.length) (h2 : 0 ≤ m') (h3 : l < rs.length) : cp k (ob rs f m) (ob rs m' l) = cp k (a.C rs) (b.C rs) :=
  cp_same nd_ob (C_nd C sa h0 h1) nd_ob (C_nd C sb h2 h3) (fun x => (mem_ob h0).trans ((C_ok C sa h0 h1).2 x).symm) fun x => (mem_ob h2).trans ((C_ok C sb h2 h3).2 x).symm
theorem W_bd (C : Chain rs) : ∀ {p : Pl} {f l : Int}, Sp p f l → 0 ≤ f → l < rs.length → 0 ≤ p.W rs ∧ p.W rs ≤ 10 * (l - f)
  | .leaf i, f, l, s, h0, h1 => by
    obtain ⟨rfl, rfl⟩ := s
    show (0 : Int) ≤ 0 ∧ (0 : Int) ≤ _
    omega
  | .node k a b, f, l, s, h0, h1 => by
    obtain ⟨m, sa, sb⟩ := s
    have la := sa.le
    have lb := sb.le
    have ba := W_bd C sa h0 (by omega)
    have bb := W_bd C sb (by omega) h1
    have bc := cp_bd (k := k) (C_nd C sa h0 (by omega)) (C_nd C sb (by omega) h1) (C_ten C sa h0 (by omega)) (C_ten C sb (by omega) h1)
    show 0 ≤ a.W rs + b.W rs + cp k (a.C rs) (b.C rs) ∧ a.W rs + b.W rs + cp k (a.C rs) (b.C rs) ≤ _
    omega
end
end W_whilemerged_k61_costs_of_plans
namespace W_whilemerged_k61_costs_of_plans
open PySem PySem.Spec PyProof.Rows L2 CM
section
variable {h : CH} {rs : List (List Int)} {X : D}
theorem eq_strs (x y : Str) : fEq false (.str x) (.str y) h = .ok (.bl (x == y)) h := by
  simp [fEq, scalD, flatD, eqF, bneg]
theorem eq_ints (i j : Int) : fEq true (.int i) (.int j) h = .ok (.bl (!(i == j))) h := by
  simp [fEq, scalD, flatD, eqF, bneg]
theorem kS_down (k : Bool) : (kS k == Str.ofString "down") = k := by cases k <;> decide +kernel
theorem any_eqF (x : Int) (B : List Int) : (B.map D.int).any (fun e => eqF e (.int x)) = B.contains x := by
  rw [List.any_map, Bool.eq_iff_iff, List.any_eq_true, List.contains_iff_mem]
  constructor
  · rintro ⟨y, hy, e⟩
    have : (y == x) = true := e
    rw [beq_iff_eq] at this
    rw [← this]
    exact hy
  · exact fun m => ⟨x, m, by show (x == x) = true; exact beq_self_eq_true x⟩
theorem in_lst {neg : Bool} (x : Int) (B : List Int) : fIn neg (.int x) (.lst (B.map D.int)) h = .ok (.bl (bneg neg (B.contains x))) h := by
  unfold fIn
  simp only [seqOf]
  rw [if_pos ⟨rfl, List.all_eq_true.mpr fun d hd => by obtain ⟨i, _, rfl⟩ := List.mem_map.mp hd; rfl⟩, any_eqF]
theorem len_lst (A : List Int) : fLen [.lst (A.map D.int)] h = .ok (.int A.length) h := by
  simp [fLen, seqOf]
theorem copied_ok (k : Bool) {A B : List Int} (la : A.length ≤ 100) : F_copied [.str (kS k), .lst (A.map D.int), .lst (B.map D.int)] h = .ok (.int (cp k A B)) h := by
  have lc : dLcL (gdName 3) (dB (dOp (fIn true) (dVar 3) (dVar 2))) (dVar 3) [some (.str (kS k)), some (.lst (A.map D.int)), some (.lst (B.map D.int)), none] (A.map D.int) h = .ok ((A.filter fun x => !B.contains x).map D.int) h :=
    lcL_fil fun x hx => ⟨[some (.str (kS k)), some (.lst (A.map D.int)), some (.lst (B.map D.int)), some (.int x)], rfl, by simp [in_lst, bneg], fun _ => rfl⟩
  have ll : A.length ≤ sizeLine := Nat.le_trans la (by decide)
  have ll2 : ∀ A : List Int, fLen [.lst (A.map D.int)] h = .ok (.int A.length) h := len_lst
  unfold F_copied bodyF
  show (u_copied [some (.str (kS k)), some (.lst (A.map D.int)), some (.lst (B.map D.int)), none] h).res = _
  unfold u_copied cp
  rw [s_ret, e_if, e_B, e_op]
  simp only [e_var, e_C, List.getElem?_cons_zero, bind_ok, eq_strs, kS_down, asB_bl]
  cases k with
  | true => simp [ll2]
  | false =>
    rw [if_neg Bool.false_ne_true, if_neg Bool.false_ne_true]
    simp only [dLc, e_CB, e_cons, e_nil, e_seqI, e_var, List.getElem?_cons_zero, List.getElem?_cons_succ, bind_ok, itemsD, List.length_map, ll, if_true, wipeD, List.foldl_cons, List.foldl_nil, List.set_cons_zero, List.set_cons_succ, lc, mkL, runl_none, ll2, toS_ok, res_rt]
/-! ### owned_by -/
abbrev obM (acc : List Int) : List (Key × D) := acc.map fun c => (Sum.inl c, D.bl true)
theorem put_ob {acc : List Int} {c : Int} : dPut (obM acc) (.inl c) (.bl true) = obM (ad acc c) := by
  unfold dPut ad
  have e : ((obM acc).any fun p => decide (p.1 = Sum.inl c)) = decide (c ∈ acc) := by
    rw [List.any_map, Bool.eq_iff_iff, List.any_eq_true, decide_eq_true_iff]
    constructor
    · rintro ⟨y, hy, e⟩
      have : (Sum.inl y : Key) = Sum.inl c := of_decide_eq_true e
      cases this
      exact hy
    · exact fun m => ⟨c, m, by simp⟩
  rw [e]
  by_cases m : c ∈ acc
  · rw [if_pos (by simpa using m), if_pos m, List.map_map]
    refine List.map_congr_left fun y _ => ?_
    show (if (Sum.inl y : Key) = Sum.inl c then ((Sum.inl y : Key), D.bl true) else (Sum.inl y, D.bl true)) = _
    split <;> rfl
  · rw [if_neg (by simpa using m), if_neg m]
    simp
theorem bk_loop {a0 a1 a2 a3 a4 : Option D} : ∀ {cs acc : List Int}, acc.length + cs.length < 1000 → dGL (gdName 4) dYes (bK (dVar 4) (dC (.bl true))) [a0, a1, a2, a3, a4] (obM acc) (cs.map D.int) h = .ok (obM (adF acc cs)) h
  | [], acc, _ => rfl
  | c :: cs, acc, l => by
    have l1 : (obM acc).length < sizeLine := Nat.lt_of_lt_of_le (show _ < 1000 by simp only [List.length_map, List.length_cons] at l ⊢; omega) (by decide)
    have l2 : (ad acc c).length ≤ acc.length + 1 := by unfold ad; split <;> simp
    have ih := bk_loop (a0 := a0) (a1 := a1) (a2 := a2) (a3 := a3) (a4 := a4) (cs := cs) (acc := ad acc c) (by simp only [List.length_cons] at l; omega)
    rw [List.map_cons]
    show (R.ok [a0, a1, a2, a3, some (.int c)] h).calm _ = _
    rw [calm_ok]
    show ((bK (dVar 4) (dC (.bl true)) (obM acc) [a0, a1, a2, a3, some (.int c)] h).calm _ : R (List (Key × D))) = _
    have e : bK (dVar 4) (dC (.bl true)) (obM acc) [a0, a1, a2, a3, some (.int c)] h = .ok (obM (ad acc c)) h := by
      unfold bK
      simp only [e_var, e_C, List.getElem?_cons_zero, List.getElem?_cons_succ, calm_ok, keyD]
      rw [if_pos l1, put_ob]
    rw [e, calm_ok]
    exact ih
theorem adF_len : ∀ {cs acc : List Int}, (adF acc cs).length ≤ acc.length + cs.length
  | [], acc => by simp [adF]
  | c :: cs, acc => by
    have := adF_len (cs := cs) (acc := ad acc c)
    have l2 : (ad acc c).length ≤ acc.length + 1 := by unfold ad; split <;> simp
    show (adF (ad acc c) cs).length ≤ _
    simp only [List.length_cons]
    omega
theorem b2_loop' {a0 a1 a2 : Option D} : ∀ {qs : List (List Int)} {acc : List Int}, (∀ r ∈ qs, r.length ≤ 10) → acc.length + 10 * qs.length < 900 →
    dGL (gdName 3) dYes (b2 (dSeqI (dVar 3)) (gdName 4) dYes (dVar 4) (dC (.bl true)) [4]) [a0, a1, a2, none, none] (obM acc) (rowsD qs) h = .ok (obM (qs.foldl adF acc)) h
  | [], acc, _, _ => rfl
  | r :: qs, acc, q, l => by
    have lr := q r (List.mem_cons_self ..)
    have l2 := adF_len (cs := r) (acc := acc)
    simp only [List.length_cons] at l
    have ih := b2_loop' (a0 := a0) (a1 := a1) (a2 := a2) (qs := qs) (acc := adF acc r) (fun y hy => q y (List.mem_cons_of_mem _ hy)) (by omega)
    show (R.ok [a0, a1, a2, some (tupI r), none] h).calm _ = _
    rw [calm_ok]
    show ((b2 (dSeqI (dVar 3)) (gdName 4) dYes (dVar 4) (dC (.bl true)) [4] (obM acc) [a0, a1, a2, some (tupI r), none] h).calm _ : R (List (Key × D))) = _
    have e : b2 (dSeqI (dVar 3)) (gdName 4) dYes (dVar 4) (dC (.bl true)) [4] (obM acc) [a0, a1, a2, some (tupI r), none] h = .ok (obM (adF acc r)) h := by
      unfold b2
      simp only [e_seqI, e_var, List.getElem?_cons_zero, List.getElem?_cons_succ, bind_ok, itemsD, calm_ok]
      exact bk_loop (by omega)
    rw [e, calm_ok]
    exact ih
theorem cut_rows {f l : Int} (h0 : 0 ≤ f) (hl : f ≤ l) (h1 : l < rs.length) : CM.cutD (rowsD rs) (some f) (some (l + 1)) = rowsD (slice rs f l) := by
  unfold CM.cutD slice
  have s1 : HT.sIx (rowsD rs).length 0 (some f) = f.toNat := by
    unfold HT.sIx
    simp only [List.length_map]
    rw [if_neg (by omega)]
    omega
  have s2 : HT.sIx (rowsD rs).length (rowsD rs).length (some (l + 1)) = (l + 1).toNat := by
    unfold HT.sIx
    simp only [List.length_map]
    rw [if_neg (by omega)]
    omega
  rw [s1, s2, ← List.map_drop, ← List.map_take]
  congr 2
  omega
theorem slice_sub {f l : Int} : ∀ r ∈ slice rs f l, r ∈ rs := fun r hr => List.mem_of_mem_drop (List.mem_of_mem_take hr)
theorem slice_len {f l : Int} : (slice rs f l).length ≤ rs.length := by
  unfold slice
  rw [List.length_take, List.length_drop]
  omega
theorem keys_ob (acc : List Int) : (obM acc).map (fun kv => kD kv.1) = acc.map D.int := by
  rw [List.map_map]
  rfl
theorem owned_ok (C : Chain rs) (c : ChD rs X) {f l : Int} (h0 : 0 ≤ f) (hl : f ≤ l) (h1 : l < rs.length) : F_owned_by [X, .int f, .int l] h = .ok (.lst ((ob rs f l).map D.int)) h := by
  have e1 : ∃ Y, (dSl false (dVar 0) (dPart (dVar 1)) (dPart (dOp (fAdd false) (dVar 2) (dC (.int 1))))) [some X, some (.int f), some (.int l), none, none] h = .ok Y h ∧ itemsD h Y = some (rowsD (slice rs f l)) := by
    rcases c with rfl | rfl
    · refine ⟨.lst (rowsD (slice rs f l)), ?_, rfl⟩
      rw [← cut_rows h0 hl h1]
      rfl
    · refine ⟨.tup (rowsD (slice rs f l)), ?_, rfl⟩
      rw [← cut_rows h0 hl h1]
      rfl
  obtain ⟨Y, e1, e2⟩ := e1
  have lp := b2_loop' (h := h) (a0 := some X) (a1 := some (.int f)) (a2 := some (.int l)) (qs := slice rs f l) (acc := []) (fun r hr => (C.own r (slice_sub r hr)).len) (by
    have := slice_len (rs := rs) (f := f) (l := l)
    have := C.le
    show 0 + _ < 900
    omega)
  unfold F_owned_by bodyF
  show (u_owned_by [some X, some (.int f), some (.int l), none, none] h).res = _
  unfold u_owned_by
  rw [s_ret, e_CB, e_cons]
  unfold dDc2
  have lp2 : dGL (gdName 3) dYes (b2 (dSeqI (dVar 3)) (gdName 4) dYes (dVar 4) (dC (.bl true)) [4]) (wipeD [some X, some (.int f), some (.int l), none, none] [3, 4]) [] (rowsD (slice rs f l)) h = .ok (obM (ob rs f l)) h := lp
  simp only [e_seqI, e1, bind_ok, e2, lp2, mkD, runl_none, e_nil, fListK, dctOf, keys_ob, mkL, toS_ok, res_rt]
end
end W_whilemerged_k61_costs_of_plans
namespace W_whilemerged_k61_costs_of_plans
open PySem PySem.Spec PyProof.Rows L2 CM
section
variable {h : CH} {rs : List (List Int)} {X : D} {a b c : D}
theorem ix2_0 : fIx (.tup [a, b]) (.int 0) h = .ok a h := rfl
theorem ix2_1 : fIx (.tup [a, b]) (.int 1) h = .ok b h := rfl
theorem ix3_0 : fIx (.tup [a, b, c]) (.int 0) h = .ok a h := rfl
theorem ix3_1 : fIx (.tup [a, b, c]) (.int 1) h = .ok b h := rfl
theorem ix3_2 : fIx (.tup [a, b, c]) (.int 2) h = .ok c h := rfl
theorem len3 : fLen [.tup [a, b, c]] h = .ok (.int 3) h := rfl
theorem in_kinds (k : Bool) : fIn true (.str (kS k)) (.tup [.str "down", .str "up"]) h = .ok (.bl false) h := by cases k <;> kernel_rfl
theorem le2 : 2 ≤ sizeLine := by decide
theorem le3 : 3 ≤ sizeLine := by decide
theorem span_ok {n : Int} : ∀ {p : Pl} {f l : Int} {k : Nat}, Sp p f l → 0 ≤ f → l < n → l - f < k → F_span_of_ k [.int n, p.D] h = .ok (.tup [.int f, .int l]) h
  | p, f, l, 0, s, h0, h1, hk => by
    have := s.le
    omega
  | .leaf i, f, l, k + 1, s, h0, h1, hk => by
    obtain ⟨rfl, rfl⟩ := s
    have c0 : decide (i ≥ 0) = true := decide_eq_true h0
    have c1 : decide (i < n) = true := decide_eq_true h1
    show (u_span_of (F_span_of_ k) [some (.int n), some (.int i), none, none] h).res = _
    unfold u_span_of
    simp [is_cell_ok, h0, fB, h1, le2]
  | .node kd x y, f, l, k + 1, s, h0, h1, hk => by
    obtain ⟨m, sa, sb⟩ := s
    have la := sa.le
    have lb := sb.le
    have ea := span_ok (n := n) (k := k) sa h0 (by omega) (by omega)
    have eb := span_ok (n := n) (k := k) sb (by omega) h1 (by omega)
    have en : fEq true (.int 3) (.int 3) h = .ok (.bl false) h := by rw [eq_ints]; rfl
    have em : fEq true (.int (m + 1)) (.int (m + 1)) h = .ok (.bl false) h := by rw [eq_ints, beq_self_eq_true]; rfl
    show (u_span_of (F_span_of_ k) [some (.int n), some (.tup [.str (kS kd), x.D, y.D]), none, none] h).res = _
    unfold u_span_of
    simp [is_cell_tup, is_tup, len3, en, ix3_0, is_str, in_kinds, ix3_1, ix3_2, ea, eb, fIsN, CM.isNon, bneg, ix2_0, ix2_1, fAdd, em, le2]
theorem is_plan_ok (C : Chain rs) (c : ChD rs X) {p : Pl} (s : Sp p 0 (rs.length - 1)) : F_is_plan [X, p.D] h = .ok (.bl true) h := by
  have e1 := span_ok (h := h) (n := rs.length) (k := 9) s (by omega) (by omega) (by have := C.le; omega)
  have e2 : fEq false (.tup [.int 0, .int ((rs.length : Int) - 1)]) (.tup [.int 0, .int ((rs.length : Int) - 1)]) h = .ok (.bl true) h := by
    have e : toP h 10 (.tup ([0, (rs.length : Int) - 1].map D.int)) = some (.tuple ([0, (rs.length : Int) - 1].map PyData.int)) := by
      show (([0, (rs.length : Int) - 1].map D.int).mapM (toP h 9)).map PyData.tuple = _
      rw [toP_ints]
      rfl
    have s : SeqAt.shaped (.tuple ([0, (rs.length : Int) - 1].map PyData.int)) = true := by
      simp [SeqAt.shaped, PyData.canLayAll0, PyData.canLay0, PyData.depthAll, PyData.depth]
    have q : PyData.eqv (.tuple ([0, (rs.length : Int) - 1].map PyData.int)) (.tuple ([0, (rs.length : Int) - 1].map PyData.int)) = true := eqvAllI _
    show fEq false (.tup ([0, (rs.length : Int) - 1].map D.int)) (.tup ([0, (rs.length : Int) - 1].map D.int)) h = _
    unfold fEq
    rw [if_neg (by simp [scalD, flatD])]
    simp only [e, s, q, and_self, if_true]
    rfl
  unfold F_is_plan bodyF
  show (u_is_plan [some X, some p.D] h).res = _
  unfold u_is_plan F_span_of
  simp [need_chain_ok C c, c.len, e1, fSubI, e2, le2]
theorem need_plan_ok (C : Chain rs) (c : ChD rs X) {p : Pl} (s : Sp p 0 (rs.length - 1)) : F_need_plan [X, p.D] h = .ok .non h := by
  unfold F_need_plan bodyF
  show (u_need_plan [some X, some p.D] h).res = _
  unfold u_need_plan
  simp [is_plan_ok C c s]
theorem row_ix (c : ChD rs X) {i : Int} (h0 : 0 ≤ i) (h1 : i < rs.length) : fIx X (.int i) h = .ok (tupI (rowAt rs i)) h := by
  have e : atI (rowsD rs) i = some (tupI (rowAt rs i)) := by
    unfold atI ixN
    rw [if_pos h0, if_pos (by rw [List.length_map]; omega)]
    show (rowsD rs)[i.toNat]? = _
    rw [List.getElem?_map, rowAt_eq h0 h1]
    rfl
  rcases c with rfl | rfl
  · simp [fIx, seqOf, e]
  · simp [fIx, seqOf, e]
theorem un3 {n : Nat} {ρ : DE} {i j k : Nat} : gdTup 3 (gdCons (gdName i) (gdCons (gdName j) (gdCons (gdName k) gdNil))) (.tup [a, b, c]) ρ h = .ok (((ρ.set i (some a)).set j (some b)).set k (some c)) h := rfl
theorem cost_of_ok (C : Chain rs) (c : ChD rs X) : ∀ {p : Pl} {f l : Int} {k : Nat}, Sp p f l → 0 ≤ f → l < rs.length → l - f < k → F_cost_of_ k [X, p.D] h = .ok (.int (p.W rs)) h
  | p, f, l, 0, s, h0, h1, hk => by
    have := s.le
    omega
  | .leaf i, f, l, k + 1, s, h0, h1, hk => by
    obtain ⟨rfl, rfl⟩ := s
    show (u_cost_of (F_cost_of_ k) [some X, some (.int i), none, none, none, none, none, none] h).res = _
    unfold u_cost_of
    simp [is_cell_ok, h0]
    rfl
  | .node kd x y, f, l, k + 1, s, h0, h1, hk => by
    obtain ⟨m, sa, sb⟩ := s
    have la := sa.le
    have lb := sb.le
    have le := C.le
    have ea := cost_of_ok (k := k) C c sa h0 (by omega) (by omega)
    have eb := cost_of_ok (k := k) C c sb (by omega) h1 (by omega)
    have sA := span_ok (h := h) (n := rs.length) (k := 9) sa h0 (by omega) (by omega)
    have sB := span_ok (h := h) (n := rs.length) (k := 9) sb (by omega) h1 (by omega)
    have oA := owned_ok (h := h) C c h0 la (show m < rs.length by omega)
    have oB := owned_ok (h := h) C c (show 0 ≤ m + 1 by omega) lb h1
    have cd := copied_ok (h := h) kd (A := ob rs f m) (B := ob rs (m + 1) l) (by have := len_ten (nd_ob (rs := rs)) (ob_ten C (l := m) h0); omega)
    rw [cp_C C sa sb h0 (by omega) (by omega) h1] at cd
    show (u_cost_of (F_cost_of_ k) [some X, some (.tup [.str (kS kd), x.D, y.D]), none, none, none, none, none, none] h).res = _
    unfold u_cost_of F_span_of
    simp [is_cell_tup, un3, c.len, sA, sB, ix2_0, ix2_1, oA, oB, cd, ea, eb, fAdd]
    rfl
theorem cost_ok (C : Chain rs) (c : ChD rs X) {p : Pl} (s : Sp p 0 (rs.length - 1)) : F_cost [X, p.D] h = .ok (.int (p.W rs)) h := by
  have e1 := cost_of_ok (h := h) (k := 9) C c s (by omega) (by omega) (by have := C.le; omega)
  unfold F_cost bodyF
  show (u_cost [some X, some p.D] h).res = _
  unfold u_cost F_cost_of
  simp [need_plan_ok C c s, e1]
theorem worth_ok (C : Chain rs) (c : ChD rs X) : ∀ {p : Pl} {f l : Int} {k : Nat}, Sp p f l → 0 ≤ f → l < rs.length → l - f < k → F__law_worth_ k [X, p.D] h = .ok (.tup [.int (p.W rs), .lst ((p.C rs).map D.int)]) h
  | p, f, l, 0, s, h0, h1, hk => by
    have := s.le
    omega
  | .leaf i, f, l, k + 1, s, h0, h1, hk => by
    obtain ⟨rfl, rfl⟩ := s
    have e1 : fListOf false [tupI (rowAt rs i)] h = .ok (.lst ((rowAt rs i).map D.int)) h := rfl
    show (u__law_worth (F__law_worth_ k) [some X, some (.int i), none, none, none, none, none, none, none] h).res = _
    unfold u__law_worth
    simp [is_cell_ok', h0, row_ix c h0 h1, e1, le2]
    exact ⟨rfl, rfl⟩
  | .node kd x y, f, l, k + 1, s, h0, h1, hk => by
    obtain ⟨m, sa, sb⟩ := s
    have la := sa.le
    have lb := sb.le
    have le := C.le
    have ea := worth_ok (k := k) C c sa h0 (by omega) (by omega)
    have eb := worth_ok (k := k) C c sb (by omega) h1 (by omega)
    have nA := len_ten (C_nd C sa h0 (by omega)) (C_ten C sa h0 (by omega))
    have nB := len_ten (C_nd C sb (by omega) h1) (C_ten C sb (by omega) h1)
    have eS : ∀ (A B : List Int), A.length ≤ 10 → B.length ≤ 10 → fAdd false (.lst (A.map D.int)) (.lst (B.map D.int)) h = .ok (.lst ((A ++ B).map D.int)) h := fun A B a b => by
      unfold fAdd
      simp only [lstOf]
      rw [if_pos (by rw [List.length_map, List.length_map]; exact Nat.le_trans (show _ ≤ 20 by omega) (by decide)), List.map_append]
      rfl
    have eU : ∀ (A : List Int), A.length ≤ 20 → fSortSet false (.lst (A.map D.int)) h = .ok (.lst ((sortU A).map D.int)) h := fun A a => by
      unfold fSortSet
      simp only [seqOf, intsOf_map]
      rw [if_pos (by omega)]
      rfl
    have u1 := eS (x.C rs) (y.C rs) nA nB
    have u2 := eU (x.C rs ++ y.C rs) (by rw [List.length_append]; omega)
    show (u__law_worth (F__law_worth_ k) [some X, some (.tup [.str (kS kd), x.D, y.D]), none, none, none, none, none, none, none] h).res = _
    show _ = R.ok (D.tup [.int (x.W rs + y.W rs + cp kd (x.C rs) (y.C rs)), .lst ((sortU (x.C rs ++ y.C rs)).map D.int)]) h
    generalize x.C rs = A at *
    generalize y.C rs = B at *
    generalize x.W rs = wa at *
    generalize y.W rs = wb at *
    have lc : dLcL (gdName 8) (dB (dOp (fIn true) (dVar 8) (dOp fIx (dVar 6) (dC (.int 1))))) (dVar 8) [some X, some (.tup [.str (kS kd), x.D, y.D]), some (.str (kS kd)), some x.D, some y.D, some (.tup [.int wa, .lst (A.map D.int)]), some (.tup [.int wb, .lst (B.map D.int)]), none, none] (A.map D.int) h = .ok ((A.filter fun x => !B.contains x).map D.int) h :=
      lcL_fil fun z hz => ⟨[some X, some (.tup [.str (kS kd), x.D, y.D]), some (.str (kS kd)), some x.D, some y.D, some (.tup [.int wa, .lst (A.map D.int)]), some (.tup [.int wb, .lst (B.map D.int)]), none, some (.int z)], rfl, by simp [ix2_1, in_lst, bneg], fun _ => rfl⟩
    have ll : A.length ≤ sizeLine := Nat.le_trans nA (by decide)
    have last : (dIf (dB (dOp (fEq false) (dVar 2) (dC (.str "down")))) (dCB fLen (dCons (dOp fIx (dVar 6) (dC (.int 1))) (dNil))) (dCB fLen (dCons (dLc false (dSeqI (dOp fIx (dVar 5) (dC (.int 1)))) (gdName 8) (dB (dOp (fIn true) (dVar 8) (dOp fIx (dVar 6) (dC (.int 1))))) (dVar 8) [8]) (dNil)))) [some X, some (.tup [.str (kS kd), x.D, y.D]), some (.str (kS kd)), some x.D, some y.D, some (.tup [.int wa, .lst (A.map D.int)]), some (.tup [.int wb, .lst (B.map D.int)]), none, none] h = .ok (.int (cp kd A B)) h := by
      unfold cp
      rw [e_if, e_B, e_op]
      simp only [e_var, e_C, List.getElem?_cons_zero, List.getElem?_cons_succ, bind_ok, eq_strs, kS_down, asB_bl]
      cases kd with
      | true =>
        rw [if_pos rfl, if_pos rfl]
        simp only [e_CB, e_cons, e_nil, e_op, e_var, e_C, List.getElem?_cons_zero, List.getElem?_cons_succ, bind_ok, ix2_1, len_lst]
      | false =>
        rw [if_neg Bool.false_ne_true, if_neg Bool.false_ne_true]
        simp only [dLc, e_CB, e_cons, e_nil, e_seqI, e_op, e_C, e_var, List.getElem?_cons_zero, List.getElem?_cons_succ, bind_ok, ix2_1, itemsD, List.length_map, ll, if_true, wipeD, List.foldl_cons, List.foldl_nil, List.set_cons_zero, List.set_cons_succ, lc, mkL, runl_none, len_lst]
    unfold u__law_worth
    rw [s_seq]
    simp only [s_if, e_B, e_call, e_cons, e_nil, e_var, List.getElem?_cons_zero, List.getElem?_cons_succ, bind_ok, List.length_cons, List.length_nil, Nat.zero_add, if_true, is_cell_tup', asB_bl, toS_ok, Bool.false_eq_true, if_false, s_next, sbind_nx, s_seq, s_asg, un3, put_ok, List.set_cons_zero, List.set_cons_succ, e_tup, Nat.reduceAdd, ea, eb, le2]
    have un2 : ∀ {ρ : DE} {a b : D} {h : CH}, gdTup 2 (gdCons (gdName 5) (gdCons (gdName 6) gdNil)) (.tup [a, b]) ρ h = .ok ((ρ.set 5 (some a)).set 6 (some b)) h := fun {_ _ _ _} => rfl
    simp only [un2, put_ok, List.set_cons_zero, List.set_cons_succ, last, sbind_nx, toS_ok, g_name, s_seq, s_asg]
    have addI : ∀ i j : Int, fAdd false (.int i) (.int j) h = .ok (.int (i + j)) h := fun _ _ => rfl
    rw [List.map_append] at u1 u2
    simp [ix2_0, ix2_1, addI, le2, u1, u2]
end
end W_whilemerged_k61_costs_of_plans
namespace W_whilemerged_k61_costs_of_plans
open PySem PySem.Spec PyProof.Rows L2 CM
/-! ### what is drawn -/
section
variable {r w n : Nat} {h : CH}
theorem addI {i j : Int} : fAdd false (.int i) (.int j) h = .ok (.int (i + j)) h := rfl
theorem subI {i j : Int} : fSubI (.int i) (.int j) h = .ok (.int (i - j)) h := rfl
theorem plan_sat : ∀ {k n : Nat} {f l : Int} {h : CH}, DrawOk r w (n + 2 * (l - f).toNat) h → 0 ≤ f → f ≤ l → l < 100 → l - f < k →
    (F__law_plan_ k [.ref r, .int f, .int l] h).sat fun d h1 => ∃ p, d = Pl.D p ∧ Sp p f l ∧ DrawOk r w n h1 ∧ DrFr r w h h1
  | 0, n, f, l, h, A, h0, hl, h9, hk => by omega
  | k + 1, n, f, l, h, A, h0, hl, h9, hk => by
    show (bodyF 5 (u__law_plan (F__law_plan_ k)) [.ref r, .int f, .int l] h).sat _
    unfold bodyF
    rw [sat_res]
    show (u__law_plan (F__law_plan_ k) [some (.ref r), some (.int f), some (.int l), none, none] h).sat _ _
    unfold u__law_plan
    rw [s_seq, sat_bindS]
    by_cases c : f = l
    · subst c
      simp [eq0_int]
      exact ⟨.leaf f, rfl, ⟨rfl, rfl⟩, A.mono (by omega), .refl⟩
    · have cb : (f == l) = false := by simp [c]
      simp [eq0_int, cb]
      rw [Kont, s_seq, sat_bindS]
      simp [subI]
      have A1 : DrawOk r w (n + 2 * (l - f - 1).toNat + 1 + 1) h := A.mono (by omega)
      refine (take_sat A1 (show 0 < l - f by omega) (by omega)).mono ?_
      rintro _ h1 ⟨v, rfl, v0, v1, A2, f2⟩
      simp [addI]
      rw [Kont, s_seq, sat_bindS]
      simp [mkL]
      have l2 : 2 ≤ sizeLine := by decide
      simp [l2]
      refine (pick_sat A2 (.inl rfl) (by simp) (by simp)).mono ?_
      rintro d h2 ⟨md, A3, f3⟩
      have ek : ∃ kd, d = .str (kS kd) := by
        simp only [List.mem_cons, List.not_mem_nil, or_false] at md
        rcases md with rfl | rfl
        · exact ⟨false, rfl⟩
        · exact ⟨true, rfl⟩
      obtain ⟨kd, rfl⟩ := ek
      have A4 : DrawOk r w ((n + 2 * (l - (f + v + 1)).toNat) + 2 * (f + v - f).toNat) h2 := A3.mono (by omega)
      rw [Kont]
      simp
      refine (plan_sat A4 h0 (by omega) (by omega) (by omega)).mono ?_
      rintro _ h3 ⟨pa, rfl, sa, A5, f5⟩
      simp [addI]
      refine (plan_sat A5 (by omega) (by omega) h9 (by omega)).mono ?_
      rintro _ h4 ⟨pb, rfl, sb, A6, f6⟩
      have l3 : 3 ≤ sizeLine := by decide
      simp [l3]
      exact ⟨.node kd pa pb, rfl, ⟨_, sa, sb⟩, A6, ((f2.trans f3).trans f5).trans f6⟩
def rg (m : Nat) : List Int := (List.range m).map fun (i : Nat) => (0 : Int) + (i : Int)
theorem rg_D {m : Nat} : rgD 0 m = (rg m).map D.int := by
  unfold rgD rg
  rw [List.map_map]
  rfl
theorem rg_mem {m : Nat} {x : Int} (h : x ∈ rg m) : 0 ≤ x ∧ x < m := by
  unfold rg at h
  obtain ⟨i, hi, rfl⟩ := List.mem_map.mp h
  have := List.mem_range.mp hi
  omega
theorem rg_own {m : Nat} (hm : m ≤ 10) : Own (rg m) := by
  refine ⟨?_, fun x hx => ?_⟩
  · unfold rg
    rw [List.pairwise_map]
    exact List.pairwise_lt_range.imp fun h => by omega
  · have := rg_mem hx
    exact bd_ten (by omega) (by omega)
theorem Own.sub {l l' : List Int} (o : Own l) (s : l'.Sublist l) : Own l' := ⟨o.lt.sublist s, fun x hx => o.bd x (s.subset hx)⟩
theorem rg_len {m : Nat} : (rg m).length = m := by simp [rg]
theorem rngI {m : Int} {ρ : DE} {ta : TD} (h0 : 0 ≤ m) (h1 : m ≤ 100) (e : ta ρ h = .ok (.int m) h) : dRng1 (dCons ta dNil) ρ h = .ok ((rg m.toNat).map D.int, none) h := by
  simp only [dRng1, e_cons, e_nil, e, bind_ok]
  rw [if_pos ⟨by omega, by omega⟩, rg_D]
theorem owned_sat {m : Int} (A : DrawOk r w (n + 11) h) (h0 : 0 ≤ m) (h1 : m ≤ 10) : (F__law_owned [.ref r, .int m] h).sat fun d h1 => ∃ l, d = tupI l ∧ Own l ∧ DrawOk r w n h1 ∧ DrFr r w h h1 := by
  unfold F__law_owned bodyF
  rw [sat_res]
  show (u__law_owned [some (.ref r), some (.int m), none, none] h).sat _ _
  unfold u__law_owned
  rw [s_seq, sat_bindS]
  simp
  refine (take_sat (n := n + 10) A (s := 6) (by decide) (by decide)).mono ?_
  rintro _ h2 ⟨v, rfl, v0, v1, A2, f2⟩
  rw [Kont, s_seq, sat_bindS]
  simp [eq0_int]
  by_cases c0 : v = 0
  · simp [c0]
    exact ⟨⟨.nil, fun x hx => nomatch hx⟩, A2.mono (by omega), f2⟩
  · simp [c0]
    rw [Kont, s_seq, sat_bindS]
    simp [eq0_int]
    by_cases c1 : v = 1
    · have hm : m ≤ 100000 := by omega
      simp [c1, dTupR, h0, hm]
      exact ⟨rg m.toNat, by rw [rg_D], rg_own (by omega), A2.mono (by omega), f2⟩
    · simp [c1]
      rw [Kont, s_ret, sat_toS, e_CB, e_cons, sat_bind, sat_bind]
      unfold dLc
      have rgE : dRng1 (dCons (dVar 1) (dNil)) [some (.ref r), some (.int m), some (.int v), none] h2 = .ok ((rg m.toNat).map D.int, none) h2 := rngI h0 (by omega) rfl
      have ll : (rg m.toNat).length ≤ sizeLine := by rw [rg_len]; exact Nat.le_trans (show m.toNat ≤ 10 by omega) (by decide)
      simp [rgE, wipeD, ll]
      refine sat_lcl (I := fun rest ys h' => ∃ (l1 l2 zs : List Int), rg m.toNat = l1 ++ l2 ∧ rest = l2.map D.int ∧ ys = zs.map D.int ∧ zs.Sublist l1 ∧ DrawOk r w (n + l2.length) h' ∧ DrFr r w h h') ?_ (ys := []) ⟨[], rg m.toNat, [], rfl, rfl, rfl, .slnil, A2.mono (by rw [rg_len]; omega), f2⟩ ?_
      · rintro d rest ys h' ⟨l1, l2, zs, e1, e2, rfl, sb, A', f⟩
        cases l2 with
        | nil => cases e2
        | cons x l2 =>
          cases e2
          simp [fB]
          have fin : ∀ s : Int, 0 < s → s < 100 → (F__law_take [.ref r, .int s] h').sat fun a h_1 => (fEq false a (.int 0) h_1).sat fun a h_2 => (asB a h_2).sat fun b h_3 => if b = true then
                ∃ l1 l2_1, rg m.toNat = l1 ++ l2_1 ∧ List.map D.int l2 = List.map D.int l2_1 ∧ ∃ x_1, List.map D.int zs ++ [D.int x] = List.map D.int x_1 ∧ x_1.Sublist l1 ∧ DrawOk r w (n + l2_1.length) h_3 ∧ DrFr r w h h_3
              else ∃ l1 l2_1, rg m.toNat = l1 ++ l2_1 ∧ List.map D.int l2 = List.map D.int l2_1 ∧ ∃ x, List.map D.int zs = List.map D.int x ∧ x.Sublist l1 ∧ DrawOk r w (n + l2_1.length) h_3 ∧ DrFr r w h h_3 := fun s s0 s1 => by
            refine (take_sat (n := n + l2.length) (by simpa [Nat.add_assoc] using A') s0 (by omega)).mono ?_
            rintro d h1 ⟨u, rfl, _, _, A3, f3⟩
            simp only [eq0_int, sat_ok, asB_bl]
            by_cases c : u = 0
            · rw [if_pos (by rw [c]; rfl)]
              exact ⟨l1 ++ [x], l2, by simp [e1], rfl, zs ++ [x], by simp, sb.append (List.Sublist.refl _), A3, f.trans f3⟩
            · rw [if_neg (by simpa using c)]
              exact ⟨l1 ++ [x], l2, by simp [e1], rfl, zs, rfl, sb.trans (List.sublist_append_left ..), A3, f.trans f3⟩
          split
          · exact fin 2 (by decide) (by decide)
          · exact fin 4 (by decide) (by decide)
      · rintro zs h' ⟨l1, l2, zs', e1, e2, rfl, sb, A', f⟩ l el
        have : l2 = [] := by cases l2 with | nil => rfl | cons => cases e2
        subst this
        simp only [List.nil_append] at el
        subst el
        simp [mkL, fTupOf, lstOf]
        exact ⟨zs', rfl, (rg_own (m := m.toNat) (by omega)).sub (by rw [e1]; simpa using sb), A', f⟩
theorem chain_sat (A : DrawOk r w (n + 100) h) : (F__law_chain [.ref r, .int 1, .int 8] h).sat fun d h1 => ∃ rs, d = .lst (rowsD rs) ∧ Chain rs ∧ DrawOk r w n h1 ∧ DrFr r w h h1 := by
  unfold F__law_chain bodyF
  rw [sat_res]
  show (u__law_chain [some (.ref r), some (.int 1), some (.int 8), none, none] h).sat _ _
  unfold u__law_chain
  rw [s_seq, sat_bindS]
  have l4 : 4 ≤ sizeLine := by decide
  simp [mkL, l4]
  refine (pick_sat (n := n + 99) A (.inl rfl) (by simp) (by simp)).mono ?_
  rintro d h2 ⟨md, A2, f2⟩
  have em : ∃ m : Int, d = .int m ∧ 0 ≤ m ∧ m ≤ 10 := by
    simp only [List.mem_cons, List.not_mem_nil, or_false] at md
    rcases md with rfl | rfl | rfl | rfl <;> exact ⟨_, rfl, by decide, by decide⟩
  obtain ⟨m, rfl, m0, m1⟩ := em
  rw [Kont, s_ret, sat_toS]
  unfold dLc
  rw [sat_bind]
  have tk : (dRng1 (dCons (dOp (fAdd false) (dVar 1) (dCall 2 F__law_take (dCons (dVar 0) (dCons (dOp (fAdd false) (dOp fSubI (dVar 2) (dVar 1)) (dC (.int 1))) (dNil))))) (dNil)) [some (.ref r), some (.int 1), some (.int 8), some (.int m), none] h2).sat fun q h3 => ∃ v : Int, q = ((rg (1 + v).toNat).map D.int, none) ∧ 0 ≤ v ∧ v < 8 ∧ DrawOk r w (n + 98) h3 ∧ DrFr r w h2 h3 := by
    unfold dRng1
    simp [subI, addI]
    refine (take_sat (n := n + 98) A2 (by decide) (by decide)).mono ?_
    rintro _ h3 ⟨v, rfl, v0, v1, A3, f3⟩
    simp [addI]
    exact ⟨⟨by omega, by omega⟩, v, by rw [rg_D], v0, v1, A3, f3⟩
  refine tk.mono ?_
  rintro _ h3 ⟨v, rfl, v0, v1, A3, f3⟩
  have ll : (rg (1 + v).toNat).length ≤ sizeLine := by rw [rg_len]; exact Nat.le_trans (show (1 + v).toNat ≤ 10 by omega) (by decide)
  simp only [List.length_map]
  rw [if_pos ll, sat_unlR, sat_bind]
  simp only [wipeD, List.foldl_cons, List.foldl_nil, List.set_cons_zero, List.set_cons_succ]
  refine sat_lcl (I := fun rest ys h' => ∃ (rs : List (List Int)), ys = rowsD rs ∧ (∀ q ∈ rs, Own q) ∧ rs.length + rest.length = (1 + v).toNat ∧ DrawOk r w (n + 11 * rest.length) h' ∧ DrFr r w h h') ?_ (ys := []) ⟨[], rfl, fun q hq => (nomatch hq), by rw [List.length_map, rg_len]; simp, A3.mono (by rw [List.length_map, rg_len]; omega), f2.trans f3⟩ ?_
  · rintro d rest ys h' ⟨rs, rfl, ow, hl, A', f⟩
    simp [dYes]
    refine (owned_sat (n := n + 11 * rest.length) (by simp only [List.length_cons] at A'; exact A'.mono (by omega)) m0 m1).mono ?_
    rintro _ h4 ⟨l, rfl, o, A4, f4⟩
    refine ⟨rs ++ [l], by simp, fun q hq => ?_, by simp only [List.length_append, List.length_cons, List.length_nil] at hl ⊢; omega, A4, f.trans f4⟩
    rcases List.mem_append.mp hq with q1 | q1
    · exact ow q q1
    · rw [List.mem_singleton.mp q1]
      exact o
  · rintro zs h' ⟨rs, rfl, ow, hl, A', f⟩ l el
    simp only [List.nil_append] at el
    subst el
    simp only [List.length_nil] at hl
    simp only [mkL, sat_ok, sat_rt]
    exact ⟨rs, rfl, ⟨by omega, by omega, ow⟩, A', f⟩
end
end W_whilemerged_k61_costs_of_plans
namespace W_whilemerged_k61_costs_of_plans
open PySem PySem.Spec PyProof.Rows L2 CM
def mid_0 : SD := dPar 8 9 (dCons (dIxT (dVar 1) (dCons (dVar 4) (dCons (dVar 7) (dNil)))) (dCons (dIxT (dVar 1) (dCons (dOp (fAdd false) (dVar 7) (dC (.int 1))) (dCons (dVar 5) (dNil)))) (dNil)))
def mid_1 : SD := dAsg (dTup (dCons (dCall 3 F_owned_by (dCons (dVar 0) (dCons (dVar 4) (dCons (dVar 7) (dNil))))) (dCons (dCall 3 F_owned_by (dCons (dVar 0) (dCons (dOp (fAdd false) (dVar 7) (dC (.int 1))) (dCons (dVar 5) (dNil))))) (dNil)))) (gdName 10)
def mid_2 : SD := dFor (dSeqI (dC (.tup [.str "down", .str "up"]))) (gdName 11) (dDrop (dBM "list" fAppend (dVar 6) (dCons (dTup (dCons (dOp (fAdd false) (dOp (fAdd false) (dOp fIx (dVar 8) (dC (.int 0))) (dOp fIx (dVar 9) (dC (.int 0)))) (dCall 3 F_copied (dCons (dVar 11) (dStar (dVar 10) (dNil))))) (dCons (dTup (dCons (dVar 11) (dCons (dOp fIx (dVar 8) (dC (.int 1))) (dCons (dOp fIx (dVar 9) (dC (.int 1))) (dNil))))) (dNil)))) (dNil))))
def mid_k2 : SD := mid_2
def mid_k1 : SD := dSeq mid_1 mid_k2
def mid_k0 : SD := dSeq mid_0 mid_k1
def fst_0 : SD := dPar 5 6 (dCons (dOp (fAdd false) (dVar 4) (dVar 3)) (dCons (dLst true (dNil)) (dNil)))
def fst_1 : SD := dFor (dRng2 (dCons (dVar 4) (dCons (dVar 5) (dNil)))) (gdName 7) (dSeq (dPar 8 9 (dCons (dIxT (dVar 1) (dCons (dVar 4) (dCons (dVar 7) (dNil)))) (dCons (dIxT (dVar 1) (dCons (dOp (fAdd false) (dVar 7) (dC (.int 1))) (dCons (dVar 5) (dNil)))) (dNil)))) (dSeq (dAsg (dTup (dCons (dCall 3 F_owned_by (dCons (dVar 0) (dCons (dVar 4) (dCons (dVar 7) (dNil))))) (dCons (dCall 3 F_owned_by (dCons (dVar 0) (dCons (dOp (fAdd false) (dVar 7) (dC (.int 1))) (dCons (dVar 5) (dNil))))) (dNil)))) (gdName 10)) (dFor (dSeqI (dC (.tup [.str "down", .str "up"]))) (gdName 11) (dDrop (dBM "list" fAppend (dVar 6) (dCons (dTup (dCons (dOp (fAdd false) (dOp (fAdd false) (dOp fIx (dVar 8) (dC (.int 0))) (dOp fIx (dVar 9) (dC (.int 0)))) (dCall 3 F_copied (dCons (dVar 11) (dStar (dVar 10) (dNil))))) (dCons (dTup (dCons (dVar 11) (dCons (dOp fIx (dVar 8) (dC (.int 1))) (dCons (dOp fIx (dVar 9) (dC (.int 1))) (dNil))))) (dNil)))) (dNil)))))))
def fst_2 : SD := dAsg (dCB fMinL (dCons (dLc false (dSeqI (dVar 6)) (gdTup 2 (gdCons (gdName 13) (gdCons (gdName 14) (gdNil)))) (dYes) (dVar 13) [13, 14]) (dNil))) (gdName 12)
def fst_3 : SD := dAsg (dOp fIx (dLc false (dSeqI (dVar 6)) (gdName 15) (dB (dOp (fEq false) (dOp fIx (dVar 15) (dC (.int 0))) (dVar 12))) (dVar 15) [15]) (dC (.int 0))) (gdSubT (dVar 1) (dCons (dVar 4) (dCons (dVar 5) (dNil))))
def fst_k3 : SD := fst_3
def fst_k2 : SD := dSeq fst_2 fst_k3
def fst_k1 : SD := dSeq fst_1 fst_k2
def fst_k0 : SD := dSeq fst_0 fst_k1
def chp_0 : SD := dDrop (dCall 1 F_need_chain (dCons (dVar 0) (dNil)))
def chp_1 : SD := dAsg (dDcT (dRng1 (dCons (dCB fLen (dCons (dVar 0) (dNil))) (dNil))) (gdName 2) (dYes) (dCons (dVar 2) (dCons (dVar 2) (dNil))) (dTup (dCons (dC (.int 0)) (dCons (dVar 2) (dNil)))) [2]) (gdName 1)
def chp_2 : SD := dFor (dRng2 (dCons (dC (.int 1)) (dCons (dCB fLen (dCons (dVar 0) (dNil))) (dNil)))) (gdName 3) (dFor (dRng1 (dCons (dOp fSubI (dCB fLen (dCons (dVar 0) (dNil))) (dVar 3)) (dNil))) (gdName 4) (dSeq (dPar 5 6 (dCons (dOp (fAdd false) (dVar 4) (dVar 3)) (dCons (dLst true (dNil)) (dNil)))) (dSeq (dFor (dRng2 (dCons (dVar 4) (dCons (dVar 5) (dNil)))) (gdName 7) (dSeq (dPar 8 9 (dCons (dIxT (dVar 1) (dCons (dVar 4) (dCons (dVar 7) (dNil)))) (dCons (dIxT (dVar 1) (dCons (dOp (fAdd false) (dVar 7) (dC (.int 1))) (dCons (dVar 5) (dNil)))) (dNil)))) (dSeq (dAsg (dTup (dCons (dCall 3 F_owned_by (dCons (dVar 0) (dCons (dVar 4) (dCons (dVar 7) (dNil))))) (dCons (dCall 3 F_owned_by (dCons (dVar 0) (dCons (dOp (fAdd false) (dVar 7) (dC (.int 1))) (dCons (dVar 5) (dNil))))) (dNil)))) (gdName 10)) (dFor (dSeqI (dC (.tup [.str "down", .str "up"]))) (gdName 11) (dDrop (dBM "list" fAppend (dVar 6) (dCons (dTup (dCons (dOp (fAdd false) (dOp (fAdd false) (dOp fIx (dVar 8) (dC (.int 0))) (dOp fIx (dVar 9) (dC (.int 0)))) (dCall 3 F_copied (dCons (dVar 11) (dStar (dVar 10) (dNil))))) (dCons (dTup (dCons (dVar 11) (dCons (dOp fIx (dVar 8) (dC (.int 1))) (dCons (dOp fIx (dVar 9) (dC (.int 1))) (dNil))))) (dNil)))) (dNil)))))))) (dSeq (dAsg (dCB fMinL (dCons (dLc false (dSeqI (dVar 6)) (gdTup 2 (gdCons (gdName 13) (gdCons (gdName 14) (gdNil)))) (dYes) (dVar 13) [13, 14]) (dNil))) (gdName 12)) (dAsg (dOp fIx (dLc false (dSeqI (dVar 6)) (gdName 15) (dB (dOp (fEq false) (dOp fIx (dVar 15) (dC (.int 0))) (dVar 12))) (dVar 15) [15]) (dC (.int 0))) (gdSubT (dVar 1) (dCons (dVar 4) (dCons (dVar 5) (dNil)))))))))
def chp_3 : SD := dRet (dIxT (dVar 1) (dCons (dC (.int 0)) (dCons (dOp fSubI (dCB fLen (dCons (dVar 0) (dNil))) (dC (.int 1))) (dNil))))
def chp_k3 : SD := chp_3
def chp_k2 : SD := dSeq chp_2 chp_k3
def chp_k1 : SD := dSeq chp_1 chp_k2
def chp_k0 : SD := dSeq chp_0 chp_k1
section
variable {h : CH} {rs : List (List Int)} {X : D} {kb ko : Nat} {kvs : List (List Key × D)} {a0 a1 a2 a3 a4 a5 a6 a7 a8 a9 a10 a11 a12 a13 a14 a15 : Option D}
theorem getT_put {kvs : List (List Key × D)} {k k' : List Key} {d : D} : dGetT (dPutT kvs k d) k' = if k = k' then some d else dGetT kvs k' := by
  unfold dPutT
  by_cases c : (kvs.any fun p => decide (p.1 = k)) = true
  · rw [if_pos c]
    induction kvs with
    | nil => simp at c
    | cons p kvs ih =>
      unfold dGetT at ih ⊢
      rw [List.map_cons, List.find?_cons, List.find?_cons]
      by_cases e : p.1 = k
      · rw [if_pos e]
        by_cases e2 : k = k'
        · subst e2
          simp [e]
        · rw [if_neg e2]
          have e3 : ¬ p.1 = k' := fun z => e2 (e.symm.trans z)
          simp only [e3, decide_false]
          by_cases c2 : (kvs.any fun p => decide (p.1 = k)) = true
          · rw [ih c2, if_neg e2]
          · have : kvs.map (fun p => if p.1 = k then (p.1, d) else p) = kvs := by
              rw [List.map_congr_left (g := id), List.map_id]
              intro q hq
              rw [if_neg (fun z => c2 (List.any_eq_true.mpr ⟨q, hq, by simpa using z⟩))]
              rfl
            rw [this]
      · rw [if_neg e]
        have c2 : (kvs.any fun p => decide (p.1 = k)) = true := by simpa [e] using c
        by_cases e2 : p.1 = k'
        · have e3 : ¬ k = k' := fun z => e (e2.trans z.symm)
          simp [e2, e3]
        · simp only [e2, decide_false]
          exact ih c2
  · rw [if_neg c]
    unfold dGetT
    rw [List.find?_append]
    by_cases e : k = k'
    · subst e
      have : kvs.find? (fun kv => decide (kv.1 = k)) = none := by
        rw [List.find?_eq_none]
        intro q hq z
        exact c (List.any_eq_true.mpr ⟨q, hq, z⟩)
      rw [this, if_pos rfl]
      simp
    · rw [if_neg e]
      simp [e]
theorem lenT_put {kvs : List (List Key × D)} {k : List Key} {d : D} : (dPutT kvs k d).length ≤ kvs.length + 1 := by
  unfold dPutT
  split <;> simp
abbrev kk (i j : Int) : List Key := [.inl i, .inl j]
theorem keysL2 {i j : Int} : keysL [.int i, .int j] = some (kk i j) := rfl
theorem ixT_ok {ta t1 t2 : TD} {ρ : DE} {i j : Int} {d : D} (e0 : ta ρ h = .ok (.ref kb) h) (e1 : t1 ρ h = .ok (.int i) h) (e2 : t2 ρ h = .ok (.int j) h) (hb : h.ob kb = some (.dctT kvs)) (g : dGetT kvs (kk i j) = some d) : dIxT ta (dCons t1 (dCons t2 dNil)) ρ h = .ok d h := by
  have l2 : [D.int i, D.int j].length ≤ sizeLine := by show 2 ≤ sizeLine; decide
  unfold dIxT
  simp only [e0, e1, e2, bind_ok, e_cons, e_nil, hb, keysL2]
  rw [if_pos l2, g]
theorem subT_ok {ta t1 t2 : TD} {ρ : DE} {i j : Int} {d : D} (e0 : ta ρ h = .ok (.ref kb) h) (e1 : t1 ρ h = .ok (.int i) h) (e2 : t2 ρ h = .ok (.int j) h) (hb : h.ob kb = some (.dctT kvs)) (l : kvs.length < 1000) : gdSubT ta (dCons t1 (dCons t2 dNil)) d ρ h = .ok ρ (h.put kb (.dctT (dPutT kvs (kk i j) d))) := by
  have l2 : [D.int i, D.int j].length ≤ sizeLine ∧ kvs.length < sizeLine := ⟨by show 2 ≤ sizeLine; decide, Nat.lt_of_lt_of_le l (by decide)⟩
  unfold gdSubT
  simp only [e0, e1, e2, calm_ok, bind_ok, e_cons, e_nil, hb, keysL2]
  rw [if_pos l2]
abbrev offD (q : Int × D) : D := .tup [.int q.1, q.2]
abbrev offer (k : Bool) (P1 P2 : Int) (A B : List Int) (d1 d2 : D) : Int × D := (P1 + P2 + cp k A B, .tup [.str (kS k), d1, d2])
def kindB : SD := dDrop (dBM "list" fAppend (dVar 6) (dCons (dTup (dCons (dOp (fAdd false) (dOp (fAdd false) (dOp fIx (dVar 8) (dC (.int 0))) (dOp fIx (dVar 9) (dC (.int 0)))) (dCall 3 F_copied (dCons (dVar 11) (dStar (dVar 10) (dNil))))) (dCons (dTup (dCons (dVar 11) (dCons (dOp fIx (dVar 8) (dC (.int 1))) (dCons (dOp fIx (dVar 9) (dC (.int 1))) (dNil))))) (dNil)))) (dNil)))
theorem kind_ok {qs : List (Int × D)} {P1 P2 : Int} {A B : List Int} {d1 d2 : D} (k : Bool) (ho : h.ob ko = some (.lst (qs.map offD))) (lq : qs.length < 1000) (la : A.length ≤ 100) :
    kindB [a0, a1, a2, a3, a4, a5, some (.ref ko), a7, some (.tup [.int P1, d1]), some (.tup [.int P2, d2]), some (.tup [.lst (A.map D.int), .lst (B.map D.int)]), some (.str (kS k)), a12, a13, a14, a15] h =
      .nx [a0, a1, a2, a3, a4, a5, some (.ref ko), a7, some (.tup [.int P1, d1]), some (.tup [.int P2, d2]), some (.tup [.lst (A.map D.int), .lst (B.map D.int)]), some (.str (kS k)), a12, a13, a14, a15] (h.put ko (.lst ((qs ++ [offer k P1 P2 A B d1 d2]).map offD))) := by
  have it : isTy "list" (.ref ko) h = true := by
    show (lstOf h (.ref ko)).isSome = true
    simp only [lstOf, ho, Option.isSome_some]
  have l1 : (qs.map offD).length < sizeLine := Nat.lt_of_lt_of_le (show _ < 1000 by rw [List.length_map]; exact lq) (by decide)
  have ap : ∀ y : D, fAppend (.ref ko) [y] h = .ok .non (h.put ko (.lst (qs.map offD ++ [y]))) := fun y => by
    unfold fAppend
    simp only [ho]
    rw [if_pos l1]
  have cd := copied_ok (h := h) k (A := A) (B := B) la
  have st : ∀ ρ : DE, ρ[10]? = some (some (.tup [.lst (A.map D.int), .lst (B.map D.int)])) → dStar (dVar 10) dNil ρ h = .ok [.lst (A.map D.int), .lst (B.map D.int)] h := fun ρ e => by
    unfold dStar
    simp [e, seqOf]
  unfold kindB
  simp only [s_drop, e_BM, e_var, List.getElem?_cons_zero, List.getElem?_cons_succ, bind_ok, it, if_true, e_cons, e_nil, e_tup, e_op, e_C, ix2_0, ix2_1, addI, e_call, st, List.length_cons, List.length_nil, Nat.zero_add, Nat.reduceAdd, cd, le2, le3, ap, toS_ok, List.map_append, List.map_cons, List.map_nil]
end
end W_whilemerged_k61_costs_of_plans
namespace W_whilemerged_k61_costs_of_plans
open PySem PySem.Spec PyProof.Rows L2 CM
section
variable {h : CH} {rs : List (List Int)} {X : D} {kb ko : Nat} {kvs : List (List Key × D)} {a0 a1 a2 a3 a4 a5 a6 a7 a8 a9 a10 a11 a12 a13 a14 a15 : Option D} {qs : List (Int × D)}
theorem forL_nx {tg : TGD} {u : SD} {d : D} {l : List D} {ρ ρ1 ρ2 : DE} {h1 h2 : CH} (e1 : tg d ρ h = .ok ρ1 h1) (e2 : u ρ1 h1 = .nx ρ2 h2) : dForL tg u (d :: l) ρ h = dForL tg u l ρ2 h2 := by
  show ((tg d ρ h).put _) = _
  rw [e1]
  show (match u ρ1 h1 with
    | .nx ρ2 h2 => dForL tg u l ρ2 h2
    | .ct ρ2 h2 => dForL tg u l ρ2 h2
    | .bk ρ2 h2 => .nx ρ2 h2
    | x => x) = _
  rw [e2]
theorem mid_ok (C : Chain rs) (c : ChD rs X) {f m l P1 P2 : Int} {d1 d2 : D} (g1 : dGetT kvs (kk f m) = some (.tup [.int P1, d1])) (g2 : dGetT kvs (kk (m + 1) l) = some (.tup [.int P2, d2])) (hb : h.ob kb = some (.dctT kvs)) (ho : h.ob ko = some (.lst (qs.map offD))) (lq : qs.length < 900)
    (h0 : 0 ≤ f) (h1 : f ≤ m) (h2 : m + 1 ≤ l) (h3 : l < rs.length) : ∃ b10 b11,
    mid_k0 [some X, some (.ref kb), a2, a3, some (.int f), some (.int l), some (.ref ko), some (.int m), a8, a9, a10, a11, a12, a13, a14, a15] h =
      .nx [some X, some (.ref kb), a2, a3, some (.int f), some (.int l), some (.ref ko), some (.int m), some (.tup [.int P1, d1]), some (.tup [.int P2, d2]), b10, b11, a12, a13, a14, a15]
        (h.put ko (.lst ((qs ++ [offer true P1 P2 (ob rs f m) (ob rs (m + 1) l) d1 d2] ++ [offer false P1 P2 (ob rs f m) (ob rs (m + 1) l) d1 d2]).map offD))) := by
  have oA := owned_ok (h := h) C c h0 h1 (show m < rs.length by omega)
  have oB := owned_ok (h := h) C c (show 0 ≤ m + 1 by omega) h2 h3
  have la : (ob rs f m).length ≤ 100 := by have := len_ten (nd_ob (rs := rs)) (ob_ten C (l := m) h0); omega
  refine ⟨some (.tup [.lst ((ob rs f m).map D.int), .lst ((ob rs (m + 1) l).map D.int)]), some (.str (kS false)), ?_⟩
  show ((mid_0 _ h).bind (dSeq mid_1 mid_2)) = _
  unfold mid_0
  rw [s_par, e_cons, ixT_ok rfl rfl rfl hb g1, bind_ok, e_cons, ixT_ok (d := .tup [.int P2, d2]) rfl (i := m + 1) (j := l) (by simp only [e_op, e_var, e_C, List.getElem?_cons_zero, List.getElem?_cons_succ, bind_ok, addI]) rfl hb g2, bind_ok, e_nil, bind_ok, bind_ok, toS_ok]
  simp only [sbind_nx, List.set_cons_zero, List.set_cons_succ, s_seq]
  unfold mid_1
  simp only [s_asg, e_tup, e_cons, e_nil, e_call, e_var, e_op, e_C, List.getElem?_cons_zero, List.getElem?_cons_succ, bind_ok, addI, List.length_cons, List.length_nil, Nat.zero_add, Nat.reduceAdd, if_true, oA, oB, le2, toS_ok, g_name, put_ok, sbind_nx, List.set_cons_zero, List.set_cons_succ]
  have k1 := kind_ok (h := h) (a0 := some X) (a1 := some (.ref kb)) (a2 := a2) (a3 := a3) (a4 := some (.int f)) (a5 := some (.int l)) (a7 := some (.int m)) (a12 := a12) (a13 := a13) (a14 := a14) (a15 := a15) (P1 := P1) (P2 := P2) (A := ob rs f m) (B := ob rs (m + 1) l) (d1 := d1) (d2 := d2) true ho (by omega) la
  have k2 := kind_ok (h := h.put ko (.lst ((qs ++ [offer true P1 P2 (ob rs f m) (ob rs (m + 1) l) d1 d2]).map offD))) (a0 := some X) (a1 := some (.ref kb)) (a2 := a2) (a3 := a3) (a4 := some (.int f)) (a5 := some (.int l)) (a7 := some (.int m)) (a12 := a12) (a13 := a13) (a14 := a14) (a15 := a15) (P1 := P1) (P2 := P2) (A := ob rs f m) (B := ob rs (m + 1) l) (d1 := d1) (d2 := d2) false put_same (by simp only [List.length_append, List.length_cons, List.length_nil]; omega) la
  rw [put_put] at k2
  show (dFor (dSeqI (dC (.tup [.str (kS true), .str (kS false)]))) (gdName 11) kindB _ h) = _
  rw [s_for, e_seqI, e_C, bind_ok]
  show ((dForL (gdName 11) kindB [.str (kS true), .str (kS false)] _ h).unl none) = _
  rw [unl_none, forL_nx rfl k1, forL_nx rfl k2]
  rfl
/-! ### the offers of a span -/
def Off (rs : List (List Int)) (f l m : Int) (qs : List (Int × D)) : Prop := ∀ k a b m', f ≤ m' → m' < m → Sp a f m' → Sp b (m' + 1) l → ∃ q ∈ qs, q.1 ≤ Pl.W rs (.node k a b)
def Best (rs : List (List Int)) (kvs : List (List Key × D)) (f l : Int) : Prop := ∃ P d, dGetT kvs (kk f l) = some (.tup [.int P, d]) ∧ ∀ p, Sp p f l → P ≤ p.W rs
theorem off_next (C : Chain rs) {f m l P1 P2 : Int} {d1 d2 : D} (h0 : 0 ≤ f) (h1 : f ≤ m) (h2 : m + 1 ≤ l) (h3 : l < rs.length) (o : Off rs f l m qs) (b1 : ∀ p, Sp p f m → P1 ≤ p.W rs) (b2 : ∀ p, Sp p (m + 1) l → P2 ≤ p.W rs) :
    Off rs f l (m + 1) (qs ++ [offer true P1 P2 (ob rs f m) (ob rs (m + 1) l) d1 d2] ++ [offer false P1 P2 (ob rs f m) (ob rs (m + 1) l) d1 d2]) := by
  intro k a b m' q1 q2 sa sb
  by_cases e : m' = m
  · subst e
    have w1 := b1 a sa
    have w2 := b2 b sb
    have cc := cp_C C (k := k) sa sb h0 (by omega) (by omega) h3
    have wn : P1 + P2 + cp k (ob rs f m') (ob rs (m' + 1) l) ≤ Pl.W rs (.node k a b) := by
      show _ ≤ a.W rs + b.W rs + cp k (a.C rs) (b.C rs)
      rw [cc]
      omega
    cases k with
    | true => exact ⟨_, List.mem_append_left _ (List.mem_append_right _ (List.mem_cons_self ..)), wn⟩
    | false => exact ⟨_, List.mem_append_right _ (List.mem_cons_self ..), wn⟩
  · obtain ⟨q, mq, w⟩ := o k a b m' q1 (by omega) sa sb
    exact ⟨q, List.mem_append_left _ (List.mem_append_left _ mq), w⟩
def rgF (a b : Int) : List D := rgD a (b - a).toNat
theorem rgF_nil {a b : Int} (l : b ≤ a) : rgF a b = [] := by
  unfold rgF
  rw [show (b - a).toNat = 0 by omega]
  rfl
theorem rgF_cons {a b : Int} (l : a < b) : rgF a b = .int a :: rgF (a + 1) b := by
  unfold rgF rgD
  rw [show (b - a).toNat = (b - (a + 1)).toNat + 1 by omega, List.range_succ_eq_map, List.map_cons, List.map_map]
  congr 1
  · show D.int (a + ((0 : Nat) : Int)) = _
    rw [Int.natCast_zero, Int.add_zero]
  · refine List.map_congr_left fun i _ => ?_
    show D.int (a + ((i + 1 : Nat) : Int)) = D.int (a + 1 + (i : Int))
    rw [Int.natCast_succ]
    congr 1
    omega
/-- the loop over the middles -/
theorem mids_ok (C : Chain rs) (c : ChD rs X) {f l : Int} (hb : ∀ m, f ≤ m → m < l → Best rs kvs f m ∧ Best rs kvs (m + 1) l) (h0 : 0 ≤ f) (h3 : l < rs.length) : ∀ {n : Nat} {m : Int} {qs : List (Int × D)} {h : CH} {a7 a8 a9 a10 a11 : Option D}, (l - m).toNat = n → h.ob kb = some (.dctT kvs) → h.ob ko = some (.lst (qs.map offD)) → kb ≠ ko → f ≤ m → m ≤ l → (qs.length : Int) = 2 * (m - f) → Off rs f l m qs →
    ∃ b7 b8 b9 b10 b11 qs', dForL (gdName 7) mid_k0 (rgF m l) [some X, some (.ref kb), a2, a3, some (.int f), some (.int l), some (.ref ko), a7, a8, a9, a10, a11, a12, a13, a14, a15] h =
      .nx [some X, some (.ref kb), a2, a3, some (.int f), some (.int l), some (.ref ko), b7, b8, b9, b10, b11, a12, a13, a14, a15] (h.put ko (.lst (qs'.map offD))) ∧ (qs'.length : Int) = 2 * (l - f) ∧ Off rs f l l qs'
  | 0, m, qs, h, a7, a8, a9, a10, a11, en, ek, eo, ne, q1, q2, q3, o => by
    have e : m = l := by omega
    subst e
    rw [rgF_nil (Int.le_refl _)]
    exact ⟨a7, a8, a9, a10, a11, qs, by rw [put_id eo]; rfl, q3, o⟩
  | n + 1, m, qs, h, a7, a8, a9, a10, a11, en, ek, eo, ne, q1, q2, q3, o => by
    obtain ⟨⟨P1, d1, g1, w1⟩, P2, d2, g2, w2⟩ := hb m q1 (by omega)
    have le := C.le
    obtain ⟨b10, b11, e1⟩ := mid_ok (h := h) (a2 := a2) (a3 := a3) (a8 := a8) (a9 := a9) (a10 := a10) (a11 := a11) (a12 := a12) (a13 := a13) (a14 := a14) (a15 := a15) C c g1 g2 ek eo (by omega) h0 q1 (by omega) h3
    rw [rgF_cons (by omega), forL_nx rfl e1]
    obtain ⟨b7, b8, b9, b10', b11', qs', e2, l2, o2⟩ := mids_ok (n := n) C c hb h0 h3 (m := m + 1) (a7 := some (.int m)) (a8 := some (.tup [.int P1, d1])) (a9 := some (.tup [.int P2, d2])) (a10 := b10) (a11 := b11) (by omega) ((put_ne ne).trans ek) put_same ne (by omega) (by omega) (by simp only [List.length_append, List.length_cons, List.length_nil]; omega) (off_next C (d1 := d1) (d2 := d2) h0 q1 (by omega) h3 o w1 w2)
    rw [put_put] at e2
    exact ⟨b7, b8, b9, b10', b11', qs', e2, l2, o2⟩
end
end W_whilemerged_k61_costs_of_plans
namespace W_whilemerged_k61_costs_of_plans
open PySem PySem.Spec PyProof.Rows L2 CM
section
variable {h : CH} {rs : List (List Int)} {X : D} {kb ko : Nat} {kvs : List (List Key × D)} {a0 a1 a2 a3 a4 a5 a6 a7 a8 a9 a10 a11 a12 a13 a14 a15 : Option D} {qs : List (Int × D)}
/-- a comprehension over a named list -/
theorem lc_ref {α : Type} {F G : α → D} {g : α → Bool} {A : List α} {ti : TD} {tg : TGD} {tt : TB} {te : TD} {ρ : DE} {vs : List Nat} (ho : h.ob ko = some (.lst (A.map F))) (et : ti ρ h = .ok (.ref ko) h) (la : A.length ≤ 1000)
    (q : ∀ x ∈ A, ∃ ρ2, tg (F x) (wipeD ρ vs) (h.put ko (.lkl (A.map F))) = .ok ρ2 (h.put ko (.lkl (A.map F))) ∧ tt ρ2 (h.put ko (.lkl (A.map F))) = .ok (g x) (h.put ko (.lkl (A.map F))) ∧ (g x = true → te ρ2 (h.put ko (.lkl (A.map F))) = .ok (G x) (h.put ko (.lkl (A.map F))))) :
    dLc false (dSeqI ti) tg tt te vs ρ h = .ok (.lst ((A.filter g).map G)) h := by
  have ll : A.length ≤ sizeLine := Nat.le_trans la (by decide)
  have lc := lcL_fil (ρ0 := wipeD ρ vs) (F := F) (G := G) (g := g) q
  have e0 : itemsD h (.ref ko) = none := rfl
  have e1 : lockD (.ref ko) h = .ok (A.map F, some (ko, .lst (A.map F))) (h.put ko (.lkl (A.map F))) := by
    unfold lockD
    simp only [ho]
  unfold dLc
  simp only [e_seqI, et, bind_ok, e0, e1, List.length_map, ll, if_true, lc, mkL]
  show R.ok _ ((h.put ko _).put ko _) = _
  rw [put_put, put_id ho]
theorem least_ok (ho : h.ob ko = some (.lst (qs.map offD))) (ne : qs ≠ []) (lq : qs.length ≤ 1000) :
    fst_2 [a0, a1, a2, a3, a4, a5, some (.ref ko), a7, a8, a9, a10, a11, a12, a13, a14, a15] h = .nx [a0, a1, a2, a3, a4, a5, some (.ref ko), a7, a8, a9, a10, a11, some (.int (minL (qs.map (·.1)))), a13, a14, a15] h := by
  have e1 : dLc false (dSeqI (dVar 6)) (gdTup 2 (gdCons (gdName 13) (gdCons (gdName 14) (gdNil)))) (dYes) (dVar 13) [13, 14] [a0, a1, a2, a3, a4, a5, some (.ref ko), a7, a8, a9, a10, a11, a12, a13, a14, a15] h = .ok (.lst ((qs.filter fun _ => true).map fun q => .int q.1)) h :=
    lc_ref (F := offD) ho rfl lq fun x hx => ⟨[a0, a1, a2, a3, a4, a5, some (.ref ko), a7, a8, a9, a10, a11, a12, some (.int x.1), some x.2, a15], rfl, rfl, fun _ => rfl⟩
  rw [filter_all (fun _ _ => rfl)] at e1
  have e2 : fMinL [.lst (qs.map fun q => .int q.1)] h = .ok (.int (minL (qs.map (·.1)))) h := by
    have : (qs.map fun q => D.int q.1) = (qs.map (·.1)).map D.int := by rw [List.map_map]; rfl
    rw [this]
    unfold fMinL
    simp only [lstOf, intsOf_map]
    rw [if_pos (by rw [List.length_map]; exact List.length_pos_iff.mpr ne)]
  unfold fst_2
  simp only [s_asg, e_CB, e_cons, e_nil, e1, bind_ok, e2, toS_ok, g_name, put_ok, List.set_cons_zero, List.set_cons_succ]
theorem store_ok {f l : Int} (ho : h.ob ko = some (.lst (qs.map offD))) (hb : h.ob kb = some (.dctT kvs)) (lk : kvs.length < 1000) (ne : qs ≠ []) (lq : qs.length ≤ 1000) :
    ∃ d, fst_3 [a0, some (.ref kb), a2, a3, some (.int f), some (.int l), some (.ref ko), a7, a8, a9, a10, a11, some (.int (minL (qs.map (·.1)))), a13, a14, a15] h =
      .nx [a0, some (.ref kb), a2, a3, some (.int f), some (.int l), some (.ref ko), a7, a8, a9, a10, a11, some (.int (minL (qs.map (·.1)))), a13, a14, a15] (h.put kb (.dctT (dPutT kvs (kk f l) (.tup [.int (minL (qs.map (·.1))), d])))) := by
  obtain ⟨mm, _⟩ := minL_mem (is := qs.map (·.1)) (by simpa using ne)
  generalize hM : minL (qs.map (·.1)) = M at *
  obtain ⟨q0, mq, e0⟩ := List.mem_map.mp mm
  have e1 : dLc false (dSeqI (dVar 6)) (gdName 15) (dB (dOp (fEq false) (dOp fIx (dVar 15) (dC (.int 0))) (dVar 12))) (dVar 15) [15] [a0, some (.ref kb), a2, a3, some (.int f), some (.int l), some (.ref ko), a7, a8, a9, a10, a11, some (.int M), a13, a14, a15] h = .ok (.lst ((qs.filter fun q => q.1 == M).map offD)) h :=
    lc_ref (F := offD) ho rfl lq fun x hx => ⟨[a0, some (.ref kb), a2, a3, some (.int f), some (.int l), some (.ref ko), a7, a8, a9, a10, a11, some (.int M), a13, a14, some (offD x)], rfl, by
      simp only [e_B, e_op, e_var, e_C, List.getElem?_cons_zero, List.getElem?_cons_succ, bind_ok, ix2_0, eq0_int, asB_bl], fun _ => rfl⟩
  have mf : q0 ∈ qs.filter fun q => q.1 == M := List.mem_filter.mpr ⟨mq, by simpa using e0⟩
  cases eF : qs.filter fun q => q.1 == M with
  | nil => rw [eF] at mf; cases mf
  | cons q1 r =>
    have m1 : q1 ∈ qs.filter fun q => q.1 == M := by rw [eF]; exact List.mem_cons_self ..
    have e1' : q1.1 = M := by simpa using (List.mem_filter.mp m1).2
    rw [eF] at e1
    refine ⟨q1.2, ?_⟩
    have e2 : fIx (.lst ((q1 :: r).map offD)) (.int 0) h = .ok (.tup [.int M, q1.2]) h := by
      rw [← e1']
      have i0 : atI ((q1 :: r).map offD) 0 = some (offD q1) := by
        unfold atI ixN
        rw [if_pos (by decide), if_pos (by simp)]
        rfl
      simp only [fIx, seqOf, i0]
    unfold fst_3
    rw [s_asg, e_op, e1, bind_ok, e_C, bind_ok, e2, toS_ok, subT_ok rfl rfl rfl hb lk]
    rfl
end
def All (rs : List (List Int)) (kvs : List (List Key × D)) (wd f : Int) : Prop := ∀ f' m : Int, 0 ≤ f' → 0 ≤ m → f' + m < rs.length → (m < wd ∨ (m = wd ∧ f' < f)) → Best rs kvs f' (f' + m)
theorem all_put {rs : List (List Int)} {kvs : List (List Key × D)} {wd f P : Int} {d : D} (A : All rs kvs wd f) (b : ∀ p, Sp p f (f + wd) → P ≤ p.W rs) : All rs (dPutT kvs (kk f (f + wd)) (.tup [.int P, d])) wd (f + 1) := by
  intro f' m q0 q1 q2 q3
  by_cases e : f' = f ∧ m = wd
  · obtain ⟨rfl, rfl⟩ := e
    exact ⟨P, d, by rw [getT_put, if_pos rfl], b⟩
  · obtain ⟨P', d', g, w⟩ := A f' m q0 q1 q2 (by omega)
    refine ⟨P', d', ?_, w⟩
    rw [getT_put, if_neg, g]
    intro z
    simp only [kk, List.cons.injEq, Sum.inl.injEq, and_true] at z
    omega
section
variable {rs : List (List Int)} {X : D} {kb : Nat}
/-- the environment of cheapest -/
def EnvB (X : D) (kb : Nat) (wd : Option D) (ρ : DE) : Prop := ∃ a2 a4 a5 a6 a7 a8 a9 a10 a11 a12 a13 a14 a15, ρ = [some X, some (.ref kb), a2, wd, a4, a5, a6, a7, a8, a9, a10, a11, a12, a13, a14, a15]
structure At (rs : List (List Int)) (kb : Nat) (h0 : CH) (wd f : Int) (h : CH) : Prop where
  le : h0.nx ≤ kb
  lt : kb < h.nx
  fr : ∀ j, j < h0.nx → h.ob j = h0.ob j
  bd : ∃ kvs, h.ob kb = some (.dctT kvs) ∧ (kvs.length : Int) ≤ 8 + 8 * wd + f ∧ All rs kvs wd f
theorem fst_ok (C : Chain rs) (c : ChD rs X) {wd f : Int} {h0 h : CH} {ρ : DE} (w1 : 1 ≤ wd) (f0 : 0 ≤ f) (lt : f + wd < rs.length) (E : EnvB X kb (some (.int wd)) ρ) (A : At rs kb h0 wd f h) :
    ∃ ρ1 h1, fst_k0 (ρ.set 4 (some (.int f))) h = .nx ρ1 h1 ∧ EnvB X kb (some (.int wd)) ρ1 ∧ At rs kb h0 wd (f + 1) h1 := by
  obtain ⟨a2, a4, a5, a6, a7, a8, a9, a10, a11, a12, a13, a14, a15, rfl⟩ := E
  obtain ⟨le, ltb, fr, kvs, ek, lk, AA⟩ := A
  have l8 := C.le
  simp only [List.set_cons_zero, List.set_cons_succ]
  have nkb : kb ≠ h.nx := by omega
  have s0 : fst_0 [some X, some (.ref kb), a2, some (.int wd), some (.int f), a5, a6, a7, a8, a9, a10, a11, a12, a13, a14, a15] h = .nx [some X, some (.ref kb), a2, some (.int wd), some (.int f), some (.int (f + wd)), some (.ref h.nx), a7, a8, a9, a10, a11, a12, a13, a14, a15] (h.new (.lst [])) := by
    unfold fst_0
    simp only [s_par, e_cons, e_nil, e_op, e_var, e_lst, List.getElem?_cons_zero, List.getElem?_cons_succ, bind_ok, addI, List.length_nil, Nat.zero_le, if_true, mkL, toS_ok, List.set_cons_zero, List.set_cons_succ]
  have nb : (h.new (.lst [])).ob kb = some (.dctT kvs) := by
    show (if kb = h.nx then _ else _) = _
    rw [if_neg nkb]
    exact ek
  have no : (h.new (.lst [])).ob h.nx = some (.lst (([] : List (Int × D)).map offD)) := by
    show (if h.nx = h.nx then _ else _) = _
    rw [if_pos rfl]
    rfl
  obtain ⟨b7, b8, b9, b10, b11, qs, s1, lq, o⟩ := mids_ok (rs := rs) (X := X) (kb := kb) (ko := h.nx) (kvs := kvs) (a2 := a2) (a3 := some (.int wd)) (a12 := a12) (a13 := a13) (a14 := a14) (a15 := a15) C c (f := f) (l := f + wd) (fun m m1 m2 => by
    have x1 := AA f (m - f) f0 (by omega) (by omega) (.inl (by omega))
    have x2 := AA (m + 1) (f + wd - (m + 1)) (by omega) (by omega) (by omega) (.inl (by omega))
    rw [show f + (m - f) = m by omega] at x1
    rw [show m + 1 + (f + wd - (m + 1)) = f + wd by omega] at x2
    exact ⟨x1, x2⟩) f0 lt (n := wd.toNat) (m := f) (qs := []) (h := h.new (.lst [])) (a7 := a7) (a8 := a8) (a9 := a9) (a10 := a10) (a11 := a11) (by omega) nb no nkb (Int.le_refl _) (by omega) (by simp) (fun k a b m' q1 q2 => by omega)
  have ne : qs ≠ [] := fun z => by
    rw [z] at lq
    simp only [List.length_nil] at lq
    omega
  generalize hg : (h.new (.lst [])).put h.nx (.lst (qs.map offD)) = g at *
  have go : g.ob h.nx = some (.lst (qs.map offD)) := by rw [← hg]; exact put_same
  have gb : g.ob kb = some (.dctT kvs) := by rw [← hg, put_ne nkb]; exact nb
  have gx : g.nx = h.nx + 1 := by rw [← hg]; rfl
  have gf : ∀ j, j < h0.nx → g.ob j = h0.ob j := fun j hj => by
    rw [← hg, put_ne (by omega)]
    show (if j = h.nx then _ else _) = _
    rw [if_neg (by omega)]
    exact fr j hj
  have s2 := least_ok (h := g) (ko := h.nx) (qs := qs) (a0 := some X) (a1 := some (.ref kb)) (a2 := a2) (a3 := some (.int wd)) (a4 := some (.int f)) (a5 := some (.int (f + wd))) (a7 := b7) (a8 := b8) (a9 := b9) (a10 := b10) (a11 := b11) (a12 := a12) (a13 := a13) (a14 := a14) (a15 := a15) go ne (by omega)
  obtain ⟨d, s3⟩ := store_ok (h := g) (ko := h.nx) (kb := kb) (kvs := kvs) (qs := qs) (f := f) (l := f + wd) (a0 := some X) (a2 := a2) (a3 := some (.int wd)) (a7 := b7) (a8 := b8) (a9 := b9) (a10 := b10) (a11 := b11) (a13 := a13) (a14 := a14) (a15 := a15) go gb (by omega) ne (by omega)
  have rg2 : ∀ ρ : DE, ρ[4]? = some (some (.int f)) → ρ[5]? = some (some (.int (f + wd))) → dRng2 (dCons (dVar 4) (dCons (dVar 5) (dNil))) ρ (h.new (.lst [])) = .ok (rgF f (f + wd), none) (h.new (.lst [])) := fun ρ e1 e2 => by
    unfold dRng2
    simp only [e_cons, e_nil, e_var, e1, e2, bind_ok]
    rw [if_pos ⟨by omega, by omega, by omega, by omega⟩]
    rfl
  refine ⟨_, g.put kb (.dctT (dPutT kvs (kk f (f + wd)) (.tup [.int (minL (qs.map (·.1))), d]))), ?_, ⟨a2, some (.int f), some (.int (f + wd)), some (.ref h.nx), b7, b8, b9, b10, b11, some (.int (minL (qs.map (·.1)))), a13, a14, a15, rfl⟩, ?_⟩
  · rw [show fst_k0 = dSeq fst_0 fst_k1 from rfl, s_seq, s0, sbind_nx, show fst_k1 = dSeq fst_1 fst_k2 from rfl, s_seq]
    have e1 : fst_1 [some X, some (.ref kb), a2, some (.int wd), some (.int f), some (.int (f + wd)), some (.ref h.nx), a7, a8, a9, a10, a11, a12, a13, a14, a15] (h.new (.lst [])) = .nx [some X, some (.ref kb), a2, some (.int wd), some (.int f), some (.int (f + wd)), some (.ref h.nx), b7, b8, b9, b10, b11, a12, a13, a14, a15] g := by
      show dFor (dRng2 (dCons (dVar 4) (dCons (dVar 5) (dNil)))) (gdName 7) mid_k0 _ _ = _
      rw [s_for, rg2 _ rfl rfl, toS_ok, unl_none]
      exact s1
    rw [e1, sbind_nx]
    rw [show fst_k2 = dSeq fst_2 fst_3 from rfl, s_seq, s2, sbind_nx, s3]
  · refine ⟨le, by show kb < g.nx; omega, fun j hj => by rw [put_ne (by omega)]; exact gf j hj, _, put_same, ?_, ?_⟩
    · have := lenT_put (kvs := kvs) (k := kk f (f + wd)) (d := .tup [.int (minL (qs.map (·.1))), d])
      omega
    · refine all_put AA fun p s => ?_
      cases p with
      | leaf i =>
        have e1 : i = f := s.1
        have e2 : i = f + wd := s.2
        omega
      | node k a b =>
        obtain ⟨m, sa, sb⟩ := s
        have la := sa.le
        have lb := sb.le
        obtain ⟨q, mq, w⟩ := o k a b m la (by omega) sa sb
        have := (minL_mem (is := qs.map (·.1)) (by simpa using ne)).2 q.1 (List.mem_map.mpr ⟨q, mq, rfl⟩)
        omega
end
end W_whilemerged_k61_costs_of_plans
namespace W_whilemerged_k61_costs_of_plans
open PySem PySem.Spec PyProof.Rows L2 CM
section
variable {rs : List (List Int)} {X : D} {kb : Nat} {h0 : CH}
theorem firsts_ok (C : Chain rs) (c : ChD rs X) {wd : Int} (w1 : 1 ≤ wd) : ∀ {n : Nat} {f : Int} {h : CH} {ρ : DE}, (rs.length - wd - f).toNat = n → 0 ≤ f → f ≤ rs.length - wd → EnvB X kb (some (.int wd)) ρ → At rs kb h0 wd f h →
    ∃ ρ1 h1, dForL (gdName 4) fst_k0 (rgF f (rs.length - wd)) ρ h = .nx ρ1 h1 ∧ EnvB X kb (some (.int wd)) ρ1 ∧ At rs kb h0 wd (rs.length - wd) h1
  | 0, f, h, ρ, en, f0, fl, E, A => by
    have e : f = rs.length - wd := by omega
    subst e
    rw [rgF_nil (Int.le_refl _)]
    exact ⟨ρ, h, rfl, E, A⟩
  | n + 1, f, h, ρ, en, f0, fl, E, A => by
    obtain ⟨ρ1, h1, e1, E1, A1⟩ := fst_ok C c w1 f0 (by omega) E A
    rw [rgF_cons (by omega), forL_nx rfl e1]
    exact firsts_ok (n := n) C c w1 (by omega) (by omega) (by omega) E1 A1
def widB : SD := dFor (dRng1 (dCons (dOp fSubI (dCB fLen (dCons (dVar 0) (dNil))) (dVar 3)) (dNil))) (gdName 4) fst_k0
theorem widths_ok (C : Chain rs) (c : ChD rs X) : ∀ {n : Nat} {wd : Int} {h : CH} {ρ : DE} {w0 : Option D}, (rs.length - wd).toNat = n → 1 ≤ wd → wd ≤ rs.length → EnvB X kb w0 ρ → At rs kb h0 wd 0 h →
    ∃ ρ1 h1 w1, dForL (gdName 3) widB (rgF wd rs.length) ρ h = .nx ρ1 h1 ∧ EnvB X kb w1 ρ1 ∧ At rs kb h0 rs.length 0 h1
  | 0, wd, h, ρ, w0, en, l1, l2, E, A => by
    have e : wd = rs.length := by omega
    subst e
    rw [rgF_nil (Int.le_refl _)]
    exact ⟨ρ, h, w0, rfl, E, A⟩
  | n + 1, wd, h, ρ, w0, en, l1, l2, E, A => by
    have l8 := C.le
    obtain ⟨a2, a4, a5, a6, a7, a8, a9, a10, a11, a12, a13, a14, a15, rfl⟩ := E
    obtain ⟨ρ1, h1, e1, E1, A1⟩ := firsts_ok (kb := kb) (h0 := h0) C c l1 (n := (rs.length - wd).toNat) (f := 0) (h := h) (ρ := [some X, some (.ref kb), a2, some (.int wd), a4, a5, a6, a7, a8, a9, a10, a11, a12, a13, a14, a15]) (by omega) (Int.le_refl _) (by omega) ⟨_, _, _, _, _, _, _, _, _, _, _, _, _, rfl⟩ A
    have ew : widB [some X, some (.ref kb), a2, some (.int wd), a4, a5, a6, a7, a8, a9, a10, a11, a12, a13, a14, a15] h = .nx ρ1 h1 := by
      unfold widB dRng1
      simp only [s_for, e_cons, e_nil, e_op, e_CB, e_var, List.getElem?_cons_zero, List.getElem?_cons_succ, bind_ok, c.len, subI]
      rw [if_pos ⟨by omega, by omega⟩, toS_ok, unl_none]
      have : rgD 0 ((rs.length : Int) - wd).toNat = rgF 0 (rs.length - wd) := by
        unfold rgF
        rw [Int.sub_zero]
      show dForL (gdName 4) fst_k0 (rgD 0 ((rs.length : Int) - wd).toNat) _ h = _
      rw [this]
      exact e1
    have A2 : At rs kb h0 (wd + 1) 0 h1 := by
      obtain ⟨p1, p2, p3, kvs, p4, p5, p6⟩ := A1
      refine ⟨p1, p2, p3, kvs, p4, by omega, fun f' m q0 q1 q2 q3 => p6 f' m q0 q1 q2 ?_⟩
      omega
    rw [rgF_cons (by omega), forL_nx rfl ew]
    exact widths_ok (n := n) C c (by omega) (by omega) (by omega) E1 A2
/-! ### the spans of one -/
def ones (acc : List (List Key × D)) (cs : List Int) : List (List Key × D) := cs.foldl (fun acc c => dPutT acc (kk c c) (.tup [.int 0, .int c])) acc
theorem ones_len : ∀ {cs : List Int} {acc : List (List Key × D)}, (ones acc cs).length ≤ acc.length + cs.length
  | [], acc => by simp [ones]
  | c :: cs, acc => by
    have := ones_len (cs := cs) (acc := dPutT acc (kk c c) (.tup [.int 0, .int c]))
    have l2 := lenT_put (kvs := acc) (k := kk c c) (d := .tup [.int 0, .int c])
    show (ones (dPutT acc (kk c c) (.tup [.int 0, .int c])) cs).length ≤ _
    simp only [List.length_cons]
    omega
theorem ones_get {x : Int} : ∀ {cs : List Int} {acc : List (List Key × D)}, (x ∈ cs ∨ dGetT acc (kk x x) = some (.tup [.int 0, .int x])) → dGetT (ones acc cs) (kk x x) = some (.tup [.int 0, .int x])
  | [], acc, h => h.elim (fun z => nomatch z) id
  | c :: cs, acc, h => by
    show dGetT (ones (dPutT acc (kk c c) (.tup [.int 0, .int c])) cs) _ = _
    refine ones_get ?_
    by_cases e : c = x
    · subst e
      exact .inr (by rw [getT_put, if_pos rfl])
    · rcases h with h | h
      · rcases List.mem_cons.mp h with rfl | h
        · exact absurd rfl e
        · exact .inl h
      · refine .inr ?_
        rw [getT_put, if_neg, h]
        intro z
        simp only [kk, List.cons.injEq, Sum.inl.injEq, and_true, and_self] at z
        exact e z
theorem ones_loop {h : CH} {a0 a1 a2 a3 a4 a5 a6 a7 a8 a9 a10 a11 a12 a13 a14 a15 : Option D} : ∀ {cs : List Int} {acc : List (List Key × D)}, acc.length + cs.length < 1000 →
    dGL (gdName 2) dYes (bT (dCons (dVar 2) (dCons (dVar 2) (dNil))) (dTup (dCons (dC (.int 0)) (dCons (dVar 2) (dNil))))) [a0, a1, a2, a3, a4, a5, a6, a7, a8, a9, a10, a11, a12, a13, a14, a15] acc (cs.map D.int) h = .ok (ones acc cs) h
  | [], acc, _ => rfl
  | c :: cs, acc, l => by
    simp only [List.length_cons] at l
    have l1 : [D.int c, D.int c].length ≤ sizeLine ∧ acc.length < sizeLine := ⟨by show 2 ≤ sizeLine; decide, Nat.lt_of_lt_of_le (show acc.length < 1000 by omega) (by decide)⟩
    have l2 := lenT_put (kvs := acc) (k := kk c c) (d := .tup [.int 0, .int c])
    have ih := ones_loop (h := h) (a0 := a0) (a1 := a1) (a2 := a2) (a3 := a3) (a4 := a4) (a5 := a5) (a6 := a6) (a7 := a7) (a8 := a8) (a9 := a9) (a10 := a10) (a11 := a11) (a12 := a12) (a13 := a13) (a14 := a14) (a15 := a15) (cs := cs) (acc := dPutT acc (kk c c) (.tup [.int 0, .int c])) (by omega)
    rw [List.map_cons]
    show (R.ok [a0, a1, some (.int c), a3, a4, a5, a6, a7, a8, a9, a10, a11, a12, a13, a14, a15] h).calm _ = _
    rw [calm_ok]
    show ((bT (dCons (dVar 2) (dCons (dVar 2) (dNil))) (dTup (dCons (dC (.int 0)) (dCons (dVar 2) (dNil)))) acc [a0, a1, some (.int c), a3, a4, a5, a6, a7, a8, a9, a10, a11, a12, a13, a14, a15] h).calm _ : R (List (List Key × D))) = _
    have e : bT (dCons (dVar 2) (dCons (dVar 2) (dNil))) (dTup (dCons (dC (.int 0)) (dCons (dVar 2) (dNil)))) acc [a0, a1, some (.int c), a3, a4, a5, a6, a7, a8, a9, a10, a11, a12, a13, a14, a15] h = .ok (dPutT acc (kk c c) (.tup [.int 0, .int c])) h := by
      unfold bT
      simp only [e_cons, e_nil, e_var, e_C, e_tup, List.getElem?_cons_zero, List.getElem?_cons_succ, bind_ok, List.length_cons, List.length_nil, Nat.zero_add, Nat.reduceAdd, le2, if_true, calm_ok, keysL2]
      rw [if_pos ⟨trivial, l1.2⟩]
    rw [e, calm_ok]
    exact ih
theorem rng2I {a b : Int} {t1 t2 : TD} {ρ : DE} {h : CH} (a0 : 0 ≤ a) (a1 : a ≤ 100) (b0 : 0 ≤ b) (b1 : b ≤ 100) (e1 : t1 ρ h = .ok (.int a) h) (e2 : t2 ρ h = .ok (.int b) h) : dRng2 (dCons t1 (dCons t2 dNil)) ρ h = .ok (rgF a b, none) h := by
  unfold dRng2
  simp only [e_cons, e_nil, e1, e2, bind_ok]
  rw [if_pos ⟨by omega, by omega, by omega, by omega⟩]
  rfl
structure Kp (h h1 : CH) : Prop where
  nx : h.nx ≤ h1.nx
  ob : ∀ j, j < h.nx → h1.ob j = h.ob j
theorem Kp.refl {h : CH} : Kp h h := ⟨Nat.le_refl _, fun _ _ => rfl⟩
theorem Kp.trans {h h1 h2 : CH} (a : Kp h h1) (b : Kp h1 h2) : Kp h h2 := ⟨Nat.le_trans a.nx b.nx, fun j l => (b.ob j (Nat.lt_of_lt_of_le l a.nx)).trans (a.ob j l)⟩
theorem draw_kp {r w n : Nat} {h h1 : CH} (A : DrawOk r w n h) (k : Kp h h1) : DrawOk r w n h1 := A.keep k.nx fun j hj => k.ob j (by have := A.lt; rcases hj with rfl | rfl <;> omega)
theorem cheapest_ok (C : Chain rs) (c : ChD rs X) {h : CH} : ∃ P d h1, F_cheapest [X] h = .ok (.tup [.int P, d]) h1 ∧ Kp h h1 ∧ ∀ p, Sp p 0 (rs.length - 1) → P ≤ p.W rs := by
  have l8 := C.le
  have l1 := C.ne
  have ml : (rg rs.length).length = rs.length := rg_len
  have e0 : chp_1 [some X, none, none, none, none, none, none, none, none, none, none, none, none, none, none, none] h = .nx [some X, some (.ref h.nx), none, none, none, none, none, none, none, none, none, none, none, none, none, none] (h.new (.dctT (ones [] (rg rs.length)))) := by
    have rgE : (dRng1 (dCons (dCB fLen (dCons (dVar 0) (dNil))) (dNil))) [some X, none, none, none, none, none, none, none, none, none, none, none, none, none, none, none] h = .ok ((rg rs.length).map D.int, none) h := by
      have q := rngI (h := h) (m := (rs.length : Int)) (ρ := [some X, none, none, none, none, none, none, none, none, none, none, none, none, none, none, none]) (ta := dCB fLen (dCons (dVar 0) (dNil))) (by omega) (by omega) (by simp only [e_CB, e_cons, e_nil, e_var, List.getElem?_cons_zero, bind_ok, c.len])
      exact q
    have lp := ones_loop (h := h) (a0 := some X) (a1 := none) (a2 := none) (a3 := none) (a4 := none) (a5 := none) (a6 := none) (a7 := none) (a8 := none) (a9 := none) (a10 := none) (a11 := none) (a12 := none) (a13 := none) (a14 := none) (a15 := none) (cs := rg rs.length) (acc := []) (by show 0 + _ < 1000; omega)
    unfold chp_1 dDcT
    simp only [s_asg, rgE, bind_ok, wipeD, List.foldl_cons, List.foldl_nil, List.set_cons_zero, List.set_cons_succ, lp, mkT, runl_none, toS_ok, g_name, put_ok]
  have A0 : At rs h.nx h 1 0 (h.new (.dctT (ones [] (rg rs.length)))) := by
    refine ⟨Nat.le_refl _, Nat.lt_succ_self _, fun j hj => ?_, ones [] (rg rs.length), ?_, ?_, ?_⟩
    · show (if j = h.nx then _ else _) = _
      rw [if_neg (by omega)]
    · show (if h.nx = h.nx then _ else _) = _
      rw [if_pos rfl]
    · have := ones_len (cs := rg rs.length) (acc := [])
      simp only [List.length_nil] at this
      omega
    · intro f m q0 q1 q2 q3
      have e : m = 0 := by omega
      subst e
      rw [Int.add_zero]
      refine ⟨0, .int f, ones_get (.inl ?_), fun p s => (W_bd C s q0 (by omega)).1⟩
      unfold rg
      exact List.mem_map.mpr ⟨f.toNat, List.mem_range.mpr (by omega), by omega⟩
  obtain ⟨ρ1, h1, w1, e1, E1, A1⟩ := widths_ok (rs := rs) (X := X) (kb := h.nx) (h0 := h) C c (n := (rs.length - 1 : Int).toNat) (wd := 1) (h := h.new (.dctT (ones [] (rg rs.length)))) (ρ := [some X, some (.ref h.nx), none, none, none, none, none, none, none, none, none, none, none, none, none, none]) (w0 := none) rfl (Int.le_refl _) (by omega) ⟨_, _, _, _, _, _, _, _, _, _, _, _, _, rfl⟩ A0
  obtain ⟨a2, a4, a5, a6, a7, a8, a9, a10, a11, a12, a13, a14, a15, rfl⟩ := E1
  obtain ⟨p1, p2, p3, kvs, p4, p5, p6⟩ := A1
  obtain ⟨P, d, g, b⟩ := p6 0 (rs.length - 1) (Int.le_refl _) (by omega) (by omega) (.inl (by omega))
  rw [Int.zero_add] at g b
  refine ⟨P, d, h1, ?_, ⟨by omega, p3⟩, b⟩
  have e2 : chp_2 [some X, some (.ref h.nx), none, none, none, none, none, none, none, none, none, none, none, none, none, none] (h.new (.dctT (ones [] (rg rs.length)))) = .nx [some X, some (.ref h.nx), a2, w1, a4, a5, a6, a7, a8, a9, a10, a11, a12, a13, a14, a15] h1 := by
    show dFor (dRng2 (dCons (dC (.int 1)) (dCons (dCB fLen (dCons (dVar 0) (dNil))) (dNil)))) (gdName 3) widB _ _ = _
    rw [s_for, rng2I (a := 1) (b := rs.length) (by omega) (by omega) (by omega) (by omega) rfl (by simp only [e_CB, e_cons, e_nil, e_var, List.getElem?_cons_zero, bind_ok, c.len]), toS_ok, unl_none]
    exact e1
  unfold F_cheapest bodyF
  show (u_cheapest [some X, none, none, none, none, none, none, none, none, none, none, none, none, none, none, none] h).res = _
  rw [show u_cheapest = dSeq chp_0 chp_k1 from rfl, s_seq]
  unfold chp_0
  simp only [s_drop, e_call, e_cons, e_nil, e_var, List.getElem?_cons_zero, bind_ok, List.length_cons, List.length_nil, Nat.zero_add, if_true, need_chain_ok C c, toS_ok, sbind_nx]
  rw [show chp_k1 = dSeq chp_1 chp_k2 from rfl, s_seq, e0, sbind_nx, show chp_k2 = dSeq chp_2 chp_3 from rfl, s_seq, e2, sbind_nx]
  unfold chp_3
  rw [s_ret, ixT_ok (kb := h.nx) (kvs := kvs) (i := 0) (j := rs.length - 1) rfl rfl (by simp only [e_op, e_C, e_CB, e_cons, e_nil, e_var, List.getElem?_cons_zero, bind_ok, c.len, subI]) p4 g, toS_ok]
  rfl
end
end W_whilemerged_k61_costs_of_plans
namespace W_whilemerged_k61_costs_of_plans
open PySem PySem.Spec PyProof.Rows L2 CM
def lap_0 : SD := dAsg (dCall 3 F__law_plan (dCons (dVar 1) (dCons (dC (.int 0)) (dCons (dOp fSubI (dCB fLen (dCons (dVar 3) (dNil))) (dC (.int 1))) (dNil))))) (gdName 6)
def lap_1 : SD := dAsg (dOp fIx (dCall 2 F__law_worth (dCons (dVar 3) (dCons (dVar 6) (dNil)))) (dC (.int 0))) (gdName 7)
def lap_2 : SD := dAsg (dLst false (dCons (dCall 2 F_cost (dCons (dVar 3) (dCons (dVar 6) (dNil)))) (dCons (dCall 2 F_cost (dCons (dCB fTupOf (dCons (dVar 3) (dNil))) (dCons (dVar 6) (dNil)))) (dCons (dCallN 0 2 ([.k 1, .k 0]) F_cost (dNil) (dCons (dVar 6) (dCons (dVar 3) (dNil)))) (dNil))))) (gdName 8)
def lap_3 : SD := dIfS (dB (dOp (fEq true) (dCB fRep (dCons (dVar 8) (dNil))) (dCB fRep (dCons (dOp (fMul false) (dLst false (dCons (dVar 7) (dNil))) (dC (.int 3))) (dNil))))) (dRet (dC (.bl false))) (dNext)
def lap_4 : SD := dIfS (dB (dOp (fB fun i j => decide (i > j)) (dOp fIx (dCall 1 F_cheapest (dCons (dVar 3) (dNil))) (dC (.int 0))) (dVar 7))) (dRet (dC (.bl false))) (dNext)
def lap_k4 : SD := lap_4
def lap_k3 : SD := dSeq lap_3 lap_k4
def lap_k2 : SD := dSeq lap_2 lap_k3
def lap_k1 : SD := dSeq lap_1 lap_k2
def lap_k0 : SD := dSeq lap_0 lap_k1
def tn_0 : SD := dAsg (dCall 3 F__law_chain (dCons (dVar 1) (dCons (dC (.int 1)) (dCons (dC (.int 8)) (dNil))))) (gdName 3)
def tn_1 : SD := dAsg (dCB fRep (dCons (dVar 3) (dNil))) (gdName 4)
def tn_2 : SD := dFor (dRng1 (dCons (dC (.int 6)) (dNil))) (gdName 5) (dSeq (dAsg (dCall 3 F__law_plan (dCons (dVar 1) (dCons (dC (.int 0)) (dCons (dOp fSubI (dCB fLen (dCons (dVar 3) (dNil))) (dC (.int 1))) (dNil))))) (gdName 6)) (dSeq (dAsg (dOp fIx (dCall 2 F__law_worth (dCons (dVar 3) (dCons (dVar 6) (dNil)))) (dC (.int 0))) (gdName 7)) (dSeq (dAsg (dLst false (dCons (dCall 2 F_cost (dCons (dVar 3) (dCons (dVar 6) (dNil)))) (dCons (dCall 2 F_cost (dCons (dCB fTupOf (dCons (dVar 3) (dNil))) (dCons (dVar 6) (dNil)))) (dCons (dCallN 0 2 ([.k 1, .k 0]) F_cost (dNil) (dCons (dVar 6) (dCons (dVar 3) (dNil)))) (dNil))))) (gdName 8)) (dSeq (dIfS (dB (dOp (fEq true) (dCB fRep (dCons (dVar 8) (dNil))) (dCB fRep (dCons (dOp (fMul false) (dLst false (dCons (dVar 7) (dNil))) (dC (.int 3))) (dNil))))) (dRet (dC (.bl false))) (dNext)) (dIfS (dB (dOp (fB fun i j => decide (i > j)) (dOp fIx (dCall 1 F_cheapest (dCons (dVar 3) (dNil))) (dC (.int 0))) (dVar 7))) (dRet (dC (.bl false))) (dNext))))))
def tn_3 : SD := dIfS (dOr (dB (dOp (fEq true) (dCB fRep (dCons (dVar 3) (dNil))) (dVar 4))) (dB (dOp (fEq true) (dCall 2 F_cost (dCons (dLst false (dCons (dOp fIx (dVar 3) (dC (.int 0))) (dNil))) (dCons (dC (.int 0)) (dNil)))) (dC (.int 0))))) (dRet (dC (.bl false))) (dNext)
def tn_k3 : SD := tn_3
def tn_k2 : SD := dSeq tn_2 tn_k3
def tn_k1 : SD := dSeq tn_1 tn_k2
def tn_k0 : SD := dSeq tn_0 tn_k1
theorem law_u : u_law = dSeq (dAsg (dCall 1 F__law_begun (dCons (dVar 0) (dNil))) (gdName 1)) (dSeq (dFor (dRng1 (dCons (dOp (fAdd false) (dC (.int 5)) (dCB fMin (dCons (dCB fLen (dCons (dVar 0) (dNil))) (dCons (dC (.int 20)) (dNil))))) (dNil))) (gdName 2) tn_k0) (dRet (dC (.bl true)))) := rfl
theorem tn_u : tn_2 = dFor (dRng1 (dCons (dC (.int 6)) (dNil))) (gdName 5) lap_k0 := rfl
/-! ### texts -/
def okP (p : PyData) : Bool := p.showable && (decide (p.depth ≤ 60) && decide (p.shown.length ≤ 10000))
theorem okP_of {p : PyData} (e : okP p = true) : p.showable = true ∧ p.depth ≤ 60 ∧ p.shown.length ≤ sizeLine := by
  simp only [okP, Bool.and_eq_true, decide_eq_true_eq] at e
  exact ⟨e.1, e.2.1, Nat.le_trans e.2.2 (by decide)⟩
theorem rep_lst {xs : List D} {p : PyData} {h : CH} (e : toQ h 14 (.lst xs) = some p) (o : p.showable = true ∧ p.depth ≤ 60 ∧ p.shown.length ≤ sizeLine) : fRep [.lst xs] h = .ok (.str p.shown) h := by
  obtain ⟨a, b, c⟩ := o
  have bx : boxed h (.lst xs) = true := rfl
  unfold fRep
  simp only [e]
  rw [if_pos ⟨bx, a, b, c⟩]
def threeP (n : Int) : PyData := .list [.int n, .int n, .int n]
theorem three_all : (List.range 81).all (fun n => okP (threeP (n : Int))) = true := by kernel_rfl
theorem three_rep {n : Int} {h : CH} (n0 : 0 ≤ n) (n1 : n ≤ 80) : fRep [.lst [.int n, .int n, .int n]] h = .ok (.str (threeP n).shown) h := by
  have q := List.all_eq_true.mp three_all n.toNat (List.mem_range.mpr (by omega))
  rw [Int.toNat_of_nonneg n0] at q
  exact rep_lst rfl (okP_of q)
def rowP (l : List Int) : PyData := .tuple (l.map PyData.int)
def rowsP (rs : List (List Int)) : PyData := .list (rs.map rowP)
theorem toQ_ints {h : CH} {k : Nat} : ∀ l : List Int, (l.map D.int).mapM (toQ h (k + 1)) = some (l.map PyData.int)
  | [] => rfl
  | x :: l => by
    rw [List.map_cons, List.mapM_cons, toQ_ints l]
    rfl
theorem toQ_rows {h : CH} {k : Nat} : ∀ rs : List (List Int), (rowsD rs).mapM (toQ h (k + 2)) = some (rs.map rowP)
  | [] => rfl
  | l :: rs => by
    have e : toQ h (k + 2) (tupI l) = some (rowP l) := by
      show ((l.map D.int).mapM (toQ h (k + 1))).map PyData.tuple = _
      rw [toQ_ints]
      rfl
    show ((tupI l :: rowsD rs).mapM (toQ h (k + 2))) = _
    rw [List.mapM_cons, e, toQ_rows rs]
    rfl
theorem one_len : ∀ x ∈ ten, (PyData.shown (.int x)).length ≤ 1 := by decide +kernel
theorem one_shw : ∀ x ∈ ten, (PyData.showable (.int x)) = true := by decide +kernel
theorem le1 : 1 ≤ sizeLine := by decide
theorem row_shown {l : List Int} (o : Own l) : (PyData.shown (rowP l)).length ≤ 35 := by
  rw [rowP, PyData.shown, shownAll_map, List.map_map]
  have a := tupleText_le (l.map (PyData.shown ∘ PyData.int))
  have b := sum_le (c := 1) (l.map (PyData.shown ∘ PyData.int)) (fun t ht => by
    obtain ⟨x, hx, rfl⟩ := List.mem_map.mp ht
    exact one_len x (o.bd x hx))
  rw [List.length_map] at b
  have := o.len
  omega
theorem dep_rows : ∀ rs : List (List Int), PyData.depthAll (rs.map rowP) ≤ 2
  | [] => by decide
  | l :: rs => by
    have a : PyData.depth (rowP l) ≤ 2 := by
      rw [rowP, PyData.depth, dep_ints]
      decide
    have := dep_rows rs
    simp only [List.map_cons, PyData.depthAll]
    omega
theorem rows_ok {rs : List (List Int)} (C : Chain rs) : (rowsP rs).showable = true ∧ (rowsP rs).depth ≤ 60 ∧ (rowsP rs).shown.length ≤ sizeLine := by
  have l8 := C.le
  refine ⟨?_, ?_, ?_⟩
  · show PyData.showableAll (rs.map rowP) = true
    rw [showableAll_iff]
    refine List.all_eq_true.mpr fun p hp => ?_
    obtain ⟨l, hl, rfl⟩ := List.mem_map.mp hp
    show PyData.showableAll (l.map PyData.int) = true
    rw [showableAll_iff]
    refine List.all_eq_true.mpr fun p hp => ?_
    obtain ⟨x, hx, rfl⟩ := List.mem_map.mp hp
    exact one_shw x ((C.own l hl).bd x hx)
  · have := dep_rows rs
    rw [rowsP, PyData.depth]
    omega
  · rw [rowsP, PyData.shown, shownAll_map, List.map_map]
    have a := listText_le (rs.map (PyData.shown ∘ rowP))
    have b := sum_le (c := 35) (rs.map (PyData.shown ∘ rowP)) (fun t ht => by
      obtain ⟨l, hl, rfl⟩ := List.mem_map.mp ht
      exact row_shown (C.own l hl))
    rw [List.length_map] at b
    exact Nat.le_trans (show _ ≤ 1000 by omega) (by decide)
theorem rows_rep {rs : List (List Int)} {h : CH} (C : Chain rs) : fRep [.lst (rowsD rs)] h = .ok (.str (rowsP rs).shown) h := by
  refine rep_lst ?_ (rows_ok C)
  show ((rowsD rs).mapM (toQ h 13)).map PyData.list = _
  rw [toQ_rows]
  rfl
theorem eq_str {s : Str} {h : CH} : fEq true (.str s) (.str s) h = .ok (.bl false) h := by
  simp [fEq, scalD, flatD, eqF, bneg]
theorem mul3 {d : D} {h : CH} : fMul false (.lst [d]) (.int 3) h = .ok (.lst [d, d, d]) h := by rfl
section
variable {r w n : Nat} {h : CH} {rs : List (List Int)} {a0 a1 a2 a3 a4 a5 a6 a7 a8 : Option D}
theorem chL : ChD rs (.lst (rowsD rs)) := .inl rfl
theorem chT : ChD rs (.tup (rowsD rs)) := .inr rfl
/-- one lap -/
theorem lap_ok (C : Chain rs) (A : DrawOk r w (n + 14) h) : ∃ b6 b7 b8 h1, lap_k0 [a0, some (.ref r), a2, some (.lst (rowsD rs)), a4, a5, a6, a7, a8] h = .nx [a0, some (.ref r), a2, some (.lst (rowsD rs)), a4, a5, b6, b7, b8] h1 ∧ DrawOk r w n h1 := by
  have l8 := C.le
  have l1 := C.ne
  obtain ⟨z, h1, e1, p, rfl, s, A1, f1⟩ := (plan_sat (k := 9) (n := n) (f := 0) (l := rs.length - 1) (A.mono (by omega)) (Int.le_refl _) (by omega) (by omega) (by omega)).ex
  have ew := worth_ok (h := h1) (k := 9) C chL s (Int.le_refl _) (by omega) (by omega)
  have c1 := cost_ok (h := h1) C chL s
  have c2 := cost_ok (h := h1) C chT s
  obtain ⟨w0, w1⟩ := W_bd C s (Int.le_refl _) (by omega)
  obtain ⟨P, d, h2, e2, kp, b⟩ := cheapest_ok (h := h1) C (chL (rs := rs))
  have wb := b p s
  generalize hW : p.W rs = W at *
  refine ⟨some p.D, some (.int W), some (.lst [.int W, .int W, .int W]), h2, ?_, draw_kp A1 kp⟩
  have s0 : lap_0 [a0, some (.ref r), a2, some (.lst (rowsD rs)), a4, a5, a6, a7, a8] h = .nx [a0, some (.ref r), a2, some (.lst (rowsD rs)), a4, a5, some p.D, a7, a8] h1 := by
    unfold lap_0 F__law_plan
    simp only [s_asg, e_call, e_cons, e_nil, e_var, e_C, e_op, e_CB, List.getElem?_cons_zero, List.getElem?_cons_succ, bind_ok, chL.len, subI, List.length_cons, List.length_nil, Nat.zero_add, Nat.reduceAdd, if_true, e1, toS_ok, g_name, put_ok, List.set_cons_zero, List.set_cons_succ]
  have s1 : lap_1 [a0, some (.ref r), a2, some (.lst (rowsD rs)), a4, a5, some p.D, a7, a8] h1 = .nx [a0, some (.ref r), a2, some (.lst (rowsD rs)), a4, a5, some p.D, some (.int W), a8] h1 := by
    unfold lap_1 F__law_worth
    simp only [s_asg, e_call, e_cons, e_nil, e_var, e_C, e_op, e_CB, List.getElem?_cons_zero, List.getElem?_cons_succ, bind_ok, List.length_cons, List.length_nil, Nat.zero_add, Nat.reduceAdd, if_true, ew, ix2_0, toS_ok, g_name, put_ok, List.set_cons_zero, List.set_cons_succ]
  have et : fTupOf [.lst (rowsD rs)] h1 = .ok (.tup (rowsD rs)) h1 := rfl
  have ek : ∀ ρ : DE, ρ[3]? = some (some (.lst (rowsD rs))) → ρ[6]? = some (some p.D) → dCallN 0 2 ([.k 1, .k 0]) F_cost (dNil) (dCons (dVar 6) (dCons (dVar 3) (dNil))) ρ h1 = .ok (.int W) h1 := fun ρ e3 e6 => by
    unfold dCallN
    simp only [e_nil, e_cons, e_var, e3, e6, bind_ok, List.length_nil, List.length_cons, Nat.zero_add, Nat.reduceAdd, and_self, if_true]
    exact c1
  have s2 : lap_2 [a0, some (.ref r), a2, some (.lst (rowsD rs)), a4, a5, some p.D, some (.int W), a8] h1 = .nx [a0, some (.ref r), a2, some (.lst (rowsD rs)), a4, a5, some p.D, some (.int W), some (.lst [.int W, .int W, .int W])] h1 := by
    unfold lap_2
    have ek1 := ek [a0, some (.ref r), a2, some (.lst (rowsD rs)), a4, a5, some p.D, some (.int W), a8] rfl rfl
    simp only [s_asg, e_lst, ek1, e_call, e_cons, e_nil, e_var, e_CB, List.getElem?_cons_zero, List.getElem?_cons_succ, bind_ok, List.length_cons, List.length_nil, Nat.zero_add, Nat.reduceAdd, if_true, c1, et, c2, le3, mkL, toS_ok, g_name, put_ok, List.set_cons_zero, List.set_cons_succ]
  have rp := three_rep (n := W) (h := h1) w0 (by omega)
  have s3 : lap_3 [a0, some (.ref r), a2, some (.lst (rowsD rs)), a4, a5, some p.D, some (.int W), some (.lst [.int W, .int W, .int W])] h1 = .nx [a0, some (.ref r), a2, some (.lst (rowsD rs)), a4, a5, some p.D, some (.int W), some (.lst [.int W, .int W, .int W])] h1 := by
    unfold lap_3
    simp only [s_if, e_B, e_op, e_CB, e_cons, e_nil, e_lst, e_C, e_var, List.getElem?_cons_zero, List.getElem?_cons_succ, bind_ok, List.length_cons, List.length_nil, Nat.zero_add, le1, if_true, mkL, mul3, rp, eq_str, asB_bl, toS_ok, Bool.false_eq_true, if_false, s_next]
  have s4 : lap_4 [a0, some (.ref r), a2, some (.lst (rowsD rs)), a4, a5, some p.D, some (.int W), some (.lst [.int W, .int W, .int W])] h1 = .nx [a0, some (.ref r), a2, some (.lst (rowsD rs)), a4, a5, some p.D, some (.int W), some (.lst [.int W, .int W, .int W])] h2 := by
    have cb : decide (P > W) = false := decide_eq_false (by omega)
    unfold lap_4
    simp only [s_if, e_B, e_op, e_call, e_cons, e_nil, e_C, e_var, List.getElem?_cons_zero, List.getElem?_cons_succ, bind_ok, List.length_cons, List.length_nil, Nat.zero_add, if_true, e2, ix2_0, fB, cb, asB_bl, toS_ok, Bool.false_eq_true, if_false, s_next]
  rw [show lap_k0 = dSeq lap_0 lap_k1 from rfl, s_seq, s0, sbind_nx, show lap_k1 = dSeq lap_1 lap_k2 from rfl, s_seq, s1, sbind_nx, show lap_k2 = dSeq lap_2 lap_k3 from rfl, s_seq, s2, sbind_nx, show lap_k3 = dSeq lap_3 lap_4 from rfl, s_seq, s3, sbind_nx, s4]
theorem laps_ok (C : Chain rs) : ∀ {l : List D} {h : CH} {a5 a6 a7 a8 : Option D}, DrawOk r w (n + 14 * l.length) h → ∃ b5 b6 b7 b8 h1, dForL (gdName 5) lap_k0 l [a0, some (.ref r), a2, some (.lst (rowsD rs)), a4, a5, a6, a7, a8] h = .nx [a0, some (.ref r), a2, some (.lst (rowsD rs)), a4, b5, b6, b7, b8] h1 ∧ DrawOk r w n h1
  | [], h, a5, a6, a7, a8, A => ⟨a5, a6, a7, a8, h, rfl, A⟩
  | d :: l, h, a5, a6, a7, a8, A => by
    obtain ⟨b6, b7, b8, h1, e1, A1⟩ := lap_ok (n := n + 14 * l.length) (h := h) (a0 := a0) (a2 := a2) (a4 := a4) (a5 := some d) (a6 := a6) (a7 := a7) (a8 := a8) C (A.mono (by simp only [List.length_cons]; omega))
    rw [forL_nx rfl e1]
    exact laps_ok C A1
theorem chain_one (C : Chain rs) : Chain [rowAt rs 0] := ⟨by simp, by simp, fun q hq => by
  rw [List.mem_singleton.mp hq]
  exact C.own _ (rowAt_mem (Int.le_refl _) (by have := C.ne; omega))⟩
theorem turn_ok (A : DrawOk r w (n + 200) h) : ∃ b3 b4 b5 b6 b7 b8 h1, tn_k0 [a0, some (.ref r), a2, a3, a4, a5, a6, a7, a8] h = .nx [a0, some (.ref r), a2, b3, b4, b5, b6, b7, b8] h1 ∧ DrawOk r w n h1 := by
  obtain ⟨z, h1, e1, rs, rfl, C, A1, f1⟩ := (chain_sat (n := n + 100) A).ex
  have l8 := C.le
  have l1 := C.ne
  have s0 : tn_0 [a0, some (.ref r), a2, a3, a4, a5, a6, a7, a8] h = .nx [a0, some (.ref r), a2, some (.lst (rowsD rs)), a4, a5, a6, a7, a8] h1 := by
    unfold tn_0
    simp only [s_asg, e_call, e_cons, e_nil, e_var, e_C, List.getElem?_cons_zero, List.getElem?_cons_succ, bind_ok, List.length_cons, List.length_nil, Nat.zero_add, Nat.reduceAdd, if_true, e1, toS_ok, g_name, put_ok, List.set_cons_zero, List.set_cons_succ]
  have s1 : tn_1 [a0, some (.ref r), a2, some (.lst (rowsD rs)), a4, a5, a6, a7, a8] h1 = .nx [a0, some (.ref r), a2, some (.lst (rowsD rs)), some (.str (rowsP rs).shown), a5, a6, a7, a8] h1 := by
    unfold tn_1
    simp only [s_asg, e_CB, e_cons, e_nil, e_var, List.getElem?_cons_zero, List.getElem?_cons_succ, bind_ok, rows_rep C, toS_ok, g_name, put_ok, List.set_cons_zero, List.set_cons_succ]
  obtain ⟨b5, b6, b7, b8, h2, e2, A2⟩ := laps_ok (n := n) (h := h1) (a0 := a0) (a2 := a2) (a4 := some (.str (rowsP rs).shown)) (a5 := a5) (a6 := a6) (a7 := a7) (a8 := a8) C (l := rgD 0 6) (A1.mono (by rw [show (rgD 0 6).length = 6 from rfl]; omega))
  have s2 : tn_2 [a0, some (.ref r), a2, some (.lst (rowsD rs)), some (.str (rowsP rs).shown), a5, a6, a7, a8] h1 = .nx [a0, some (.ref r), a2, some (.lst (rowsD rs)), some (.str (rowsP rs).shown), b5, b6, b7, b8] h2 := by
    have rg6 : ∀ ρ : DE, dRng1 (dCons (dC (.int 6)) (dNil)) ρ h1 = .ok (rgD 0 6, none) h1 := fun ρ => rfl
    rw [tn_u, s_for, rg6, toS_ok, unl_none]
    exact e2
  have i0 := row_ix (h := h2) (chL (rs := rs)) (i := 0) (Int.le_refl _) (by omega)
  have c0 : F_cost [.lst [tupI (rowAt rs 0)], .int 0] h2 = .ok (.int 0) h2 := cost_ok (h := h2) (p := .leaf 0) (chain_one C) (chL (rs := [rowAt rs 0])) ⟨rfl, by simp⟩
  have e0 : fEq true (.int 0) (.int 0) h2 = .ok (.bl false) h2 := by rw [eq_ints]; rfl
  have s3 : tn_3 [a0, some (.ref r), a2, some (.lst (rowsD rs)), some (.str (rowsP rs).shown), b5, b6, b7, b8] h2 = .nx [a0, some (.ref r), a2, some (.lst (rowsD rs)), some (.str (rowsP rs).shown), b5, b6, b7, b8] h2 := by
    unfold tn_3
    simp only [s_if, e_or, e_B, e_op, e_CB, e_call, e_lst, e_cons, e_nil, e_C, e_var, List.getElem?_cons_zero, List.getElem?_cons_succ, bind_ok, rows_rep C, eq_str, asB_bl, Bool.false_eq_true, if_false, i0, List.length_cons, List.length_nil, Nat.zero_add, Nat.reduceAdd, le1, if_true, mkL, c0, e0, toS_ok, s_next]
  refine ⟨some (.lst (rowsD rs)), some (.str (rowsP rs).shown), b5, b6, b7, b8, h2, ?_, A2⟩
  rw [show tn_k0 = dSeq tn_0 tn_k1 from rfl, s_seq, s0, sbind_nx, show tn_k1 = dSeq tn_1 tn_k2 from rfl, s_seq, s1, sbind_nx, show tn_k2 = dSeq tn_2 tn_3 from rfl, s_seq, s2, sbind_nx, s3]
theorem turns_ok : ∀ {l : List D} {h : CH} {a2 a3 a4 a5 a6 a7 a8 : Option D}, DrawOk r w (200 * l.length) h → ∃ ρ1 h1, dForL (gdName 2) tn_k0 l [a0, some (.ref r), a2, a3, a4, a5, a6, a7, a8] h = .nx ρ1 h1
  | [], h, a2, a3, a4, a5, a6, a7, a8, A => ⟨_, h, rfl⟩
  | d :: l, h, a2, a3, a4, a5, a6, a7, a8, A => by
    obtain ⟨b3, b4, b5, b6, b7, b8, h1, e1, A1⟩ := turn_ok (n := 200 * l.length) (h := h) (a0 := a0) (a2 := some d) (a3 := a3) (a4 := a4) (a5 := a5) (a6 := a6) (a7 := a7) (a8 := a8) (A.mono (by simp only [List.length_cons]; omega))
    rw [forL_nx rfl e1]
    exact turns_ok A1
end
theorem law_ok : LawF F_law := by
  intro ns hn
  obtain ⟨h1, e1, A1, n1, _⟩ := begun_ok (h := CH.emp) hn
  have e2 : fLen [.scr ns] h1 = .ok (.int ns.length) h1 := rfl
  have e3 : fMin [.int ns.length, .int 20] h1 = .ok (.int (if (20 : Int) < ns.length then 20 else ns.length)) h1 := rfl
  have bd : (if (20 : Int) < ns.length then 20 else (ns.length : Int)) ≤ 20 ∧ 0 ≤ (if (20 : Int) < ns.length then 20 else (ns.length : Int)) := by split <;> omega
  generalize hM : (if (20 : Int) < ns.length then 20 else (ns.length : Int)) = M at *
  have hl : ((rg (5 + M).toNat).map D.int).length ≤ 25 := by
    rw [List.length_map, rg_len]
    omega
  have rE : ∀ ρ : DE, ρ[0]? = some (some (.scr ns)) → dRng1 (dCons (dOp (fAdd false) (dC (.int 5)) (dCB fMin (dCons (dCB fLen (dCons (dVar 0) (dNil))) (dCons (dC (.int 20)) (dNil))))) (dNil)) ρ h1 = .ok ((rg (5 + M).toNat).map D.int, none) h1 := fun ρ e0 =>
    rngI (m := 5 + M) (by omega) (by omega) (by simp only [e_op, e_C, e_CB, e_cons, e_nil, e_var, e0, bind_ok, e2, e3, addI])
  obtain ⟨ρ2, h2, e4⟩ := turns_ok (r := CH.emp.nx + 1) (w := CH.emp.nx) (a0 := some (.scr ns)) (a2 := none) (a3 := none) (a4 := none) (a5 := none) (a6 := none) (a7 := none) (a8 := none) (h := h1) (l := (rg (5 + M).toNat).map D.int) (A1.mono (by omega))
  refine ⟨h2, ?_⟩
  unfold F_law bodyF
  show (u_law [some (.scr ns), none, none, none, none, none, none, none, none] CH.emp).res = _
  rw [law_u, s_seq]
  simp only [s_asg, e_call, e_cons, e_nil, e_var, List.getElem?_cons_zero, bind_ok, List.length_cons, List.length_nil, Nat.zero_add, if_true, e1, toS_ok, g_name, put_ok, sbind_nx, List.set_cons_zero, List.set_cons_succ, s_seq, s_for]
  rw [rE _ rfl, toS_ok, unl_none, e4]
  rfl
end W_whilemerged_k61_costs_of_plans
open PySem PySem.W PyProof.Rows in
set_option maxRecDepth 100000 in
set_option maxHeartbeats 0 in
theorem PySem.Challenge.cw_whilemerged_k61_costs_of_plans_holds : PySem.Challenge.rw_whilemerged_k61_costs_of_plans.Holds := by
  w_on; o_law; k_head; (case hw => w_witness2)
  k_fill
  refine CM.walkG (l := PySem.Challenge.rw_whilemerged_k61_costs_of_plans) (k := 21) (F := W_whilemerged_k61_costs_of_plans.F_law) W_whilemerged_k61_costs_of_plans.law_ok (by decide +kernel) rfl rfl ⟨rfl, by decide, by decide⟩ (fun w h Y => PySem.W.kIn_of Y) ?F
  case F =>
    intro w mg fa h KX G hmg
    refine' W_whilemerged_k61_costs_of_plans.all_mk KX G hmg ?a0 ?l0 ?c0 ?k0 ?a1 ?l1 ?c1 ?k1 ?a2 ?l2 ?c2 ?k2 ?a3 ?l3 ?c3 ?k3 ?a4 ?l4 ?c4 ?k4 ?a5 ?l5 ?c5 ?k5 ?a6 ?l6 ?c6 ?k6 ?a7 ?l7 ?c7 ?k7 ?a8 ?l8 ?c8 ?k8 ?a9 ?l9 ?c9 ?k9 ?a10 ?l10 ?c10 ?k10 ?a11 ?l11 ?c11 ?k11 ?a12 ?l12 ?c12 ?k12 ?a13 ?l13 ?c13 ?k13 ?a14 ?l14 ?c14 ?k14 ?a15 ?l15 ?c15 ?k15 ?a16 ?l16 ?c16 ?k16 ?a17 ?l17 ?c17 ?k17 ?a18 ?l18 ?c18 ?k18 ?a19 ?l19 ?c19 ?k19 ?a20 ?l20 ?c20 ?k20 ?g_MOST_LAYERS ?g_KINDS ?h_KINDS ?z_abs ?z_int ?z_len ?z_tuple ?z_range ?z_isinstance ?z_bool ?z_list ?z_sorted ?z_set ?z_all ?z_str ?z_min ?z_repr
    (case a0 => k_is)
    (case l0 => k_is)
    (case c0 => k_is)
    (case k0 => k_is)
    (case a1 => k_is)
    (case l1 => k_is)
    (case c1 => k_is)
    (case k1 => k_is)
    (case a2 => k_is)
    (case l2 => k_is)
    (case c2 => k_is)
    (case k2 => k_is)
    (case a3 => k_is)
    (case l3 => k_is)
    (case c3 => k_is)
    (case k3 => k_is)
    (case a4 => k_is)
    (case l4 => k_is)
    (case c4 => k_is)
    (case k4 => k_is)
    (case a5 => k_is)
    (case l5 => k_is)
    (case c5 => k_is)
    (case k5 => k_is)
    (case a6 => k_is)
    (case l6 => k_is)
    (case c6 => k_is)
    (case k6 => k_is)
    (case a7 => k_is)
    (case l7 => k_is)
    (case c7 => k_is)
    (case k7 => k_is)
    (case a8 => k_is)
    (case l8 => k_is)
    (case c8 => k_is)
    (case k8 => k_is)
    (case a9 => k_is)
    (case l9 => k_is)
    (case c9 => k_is)
    (case k9 => k_is)
    (case a10 => k_is)
    (case l10 => k_is)
    (case c10 => k_is)
    (case k10 => k_is)
    (case a11 => k_is)
    (case l11 => k_is)
    (case c11 => k_is)
    (case k11 => k_is)
    (case a12 => k_is)
    (case l12 => k_is)
    (case c12 => k_is)
    (case k12 => k_is)
    (case a13 => k_is)
    (case l13 => k_is)
    (case c13 => k_is)
    (case k13 => k_is)
    (case a14 => k_is)
    (case l14 => k_is)
    (case c14 => k_is)
    (case k14 => k_is)
    (case a15 => k_is)
    (case l15 => k_is)
    (case c15 => k_is)
    (case k15 => k_is)
    (case a16 => k_is)
    (case l16 => k_is)
    (case c16 => k_is)
    (case k16 => k_is)
    (case a17 => k_is)
    (case l17 => k_is)
    (case c17 => k_is)
    (case k17 => k_is)
    (case a18 => k_is)
    (case l18 => k_is)
    (case c18 => k_is)
    (case k18 => k_is)
    (case a19 => k_is)
    (case l19 => k_is)
    (case c19 => k_is)
    (case k19 => k_is)
    (case a20 => k_is)
    (case l20 => k_is)
    (case c20 => k_is)
    (case k20 => k_is)
    (case g_MOST_LAYERS => k_is)
    (case g_KINDS => k_is)
    (case h_KINDS => k_is)
    (case z_abs => k_is)
    (case z_int => k_is)
    (case z_len => k_is)
    (case z_tuple => k_is)
    (case z_range => k_is)
    (case z_isinstance => k_is)
    (case z_bool => k_is)
    (case z_list => k_is)
    (case z_sorted => k_is)
    (case z_set => k_is)
    (case z_all => k_is)
    (case z_str => k_is)
    (case z_min => k_is)
    (case z_repr => k_is)
#print axioms PySem.Challenge.cw_whilemerged_k61_costs_of_plans_holds
